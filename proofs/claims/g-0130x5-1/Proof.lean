import JvmDerived
import JvmDerived.Pilot.@@N@@Statement
import JvmDerived.Pilot.@@N@@Code
set_option linter.unusedVariables false
set_option linter.unusedSimpArgs false
namespace Jvm.RoadKit
open Sem ClassFile Op Lib Jvm.Stand Jvm.Free Jvm.LawKit
section New
variable {p : Program} {l : Launch} {e : Env} {R : Room} {s : State} {m : MethodId} {args : Array Value} {below : List Frame} {meth : Method} {c : Code} {T : State} {locs : List Loc} {cells slots : Nat}
theorem retI (X : Stand p l e R s m args below meth c T locs cells slots) (hx : p.tables.exec = Jvm.exec) {pc : Nat} {Ls : Array Slot} {z : Int32} {rest : List Value} (hret : meth.sig.returnType = some .int) (hd : decode c.code pc = .ok (.ireturn, 1)) {fs : List Frame}
    (hl : ∀ (f : JFrame) (acts : List Action), f.method = m → f.locked = none → f.entered = [] → (doReturn e (T.setTop f) acts (some (.int z))).1 = T.setFrames fs) : Steps p.tables e below (T.setTop (mkF m pc Ls (.int z :: rest))) (T.setFrames fs) := by
  have hm' : T.vm.method? m = some meth := X.method'
  have hn : narrow .int (.int z) = .int z := rfl
  show Steps p.tables e below (T.setTop { method := m, pc := pc, locals := Ls, stack := _ :: rest, locked := none }) _
  jvm_step X.here [X.here.top, hx, hd, hm', hret, hn]
  first | (intro acts; rw [hl _ acts rfl rfl rfl]) | rw [hl _ _ rfl rfl rfl]
  exact Steps.refl _
end New
end Jvm.RoadKit
namespace Jvm.Pilot.@@N@@
open Jvm Jvm.ClassFile Sem Op Lib Jvm.Free Jvm.Stand Jvm.LawKit Jvm.RoadKit Bundle Jvm.Pilot.@@N@@.Jvm.D
/- records: scalars, int-like arrays, long arrays -/
abbrev Rec : Type := (Nat → Int32) × (Nat → Int32 → Int32) × (Nat → Int32 → Int64)
def zrec : Rec := (fun _ => 0, fun _ _ => 0, fun _ _ => 0)
def gI (ob : Rec) (k : Nat) : Int32 := ob.1 k
def gA (ob : Rec) (k : Nat) (i : Int32) : Int32 := ob.2.1 k i
def gJ (ob : Rec) (k : Nat) (i : Int32) : Int64 := ob.2.2 k i
def sI (ob : Rec) (k : Nat) (v : Int32) : Rec := (fun j => if j = k then v else ob.1 j, ob.2)
def sA (ob : Rec) (k : Nat) (i v : Int32) : Rec := (ob.1, fun j x => if j = k ∧ x = i then v else ob.2.1 j x, ob.2.2)
def sJ (ob : Rec) (k : Nat) (i : Int32) (v : Int64) : Rec := (ob.1, ob.2.1, fun j x => if j = k ∧ x = i then v else ob.2.2 j x)
def chk {γ : Type} (n i : Int32) (A : Option γ) : Option γ := if i < 0 then none else if i < n then A else none
def dvz {γ : Type} (y : Int32) (A : Option γ) : Option γ := if y = 0 then none else A
def bind2 {α β γ : Type} (o : Option (α × β)) (f : α → β → Option γ) : Option γ := o.bind fun q => f q.1 q.2
def bind3 {α β γ δ : Type} (o : Option (α × β × δ)) (f : α → β → δ → Option γ) : Option γ := o.bind fun q => f q.1 q.2.1 q.2.2
theorem ite_el {c : Prop} [Decidable c] {γ : Type} {A B : Option γ} {r : γ} {Q : Prop} (h : (if c then A else B) = some r) (t : c → A = some r → Q) (e : ¬ c → B = some r → Q) : Q := by
  by_cases hc : c
  · rw [if_pos hc] at h; exact t hc h
  · rw [if_neg hc] at h; exact e hc h
theorem bind_el {α γ : Type} {o : Option α} {f : α → Option γ} {r : γ} {Q : Prop} (h : o.bind f = some r) (k : ∀ x, o = some x → f x = some r → Q) : Q := by
  cases o with
  | none => cases h
  | some x => exact k x rfl h
theorem bind2_el {α β γ : Type} {o : Option (α × β)} {f : α → β → Option γ} {r : γ} {Q : Prop} (h : bind2 o f = some r) (k : ∀ x y, o = some (x, y) → f x y = some r → Q) : Q := by
  rcases o with _ | ⟨x, y⟩
  · cases h
  · exact k x y rfl h
theorem bind3_el {α β γ δ : Type} {o : Option (α × β × δ)} {f : α → β → δ → Option γ} {r : γ} {Q : Prop} (h : bind3 o f = some r) (k : ∀ x y z, o = some (x, y, z) → f x y z = some r → Q) : Q := by
  rcases o with _ | ⟨x, y, z⟩
  · cases h
  · exact k x y z rfl h
theorem chk_el {γ : Type} {n i : Int32} {A : Option γ} {r : γ} {Q : Prop} (h : chk n i A = some r) (k : (¬ i < 0 ∧ i < n) → A = some r → Q) : Q := by
  unfold chk at h
  by_cases h0 : i < 0
  · rw [if_pos h0] at h; cases h
  · rw [if_neg h0] at h
    by_cases h1 : i < n
    · rw [if_pos h1] at h; exact k ⟨h0, h1⟩ h
    · rw [if_neg h1] at h; cases h
theorem dvz_el {γ : Type} {y : Int32} {A : Option γ} {r : γ} {Q : Prop} (h : dvz y A = some r) (k : y ≠ 0 → A = some r → Q) : Q := by
  unfold dvz at h
  by_cases h0 : y = 0
  · rw [if_pos h0] at h; cases h
  · rw [if_neg h0] at h; exact k h0 h
def All {α : Type} (p : α → Prop) : List α → Prop
  | [] => True
  | x :: l => p x ∧ All p l
theorem All.mem {α : Type} {p : α → Prop} : ∀ {l : List α}, All p l → ∀ {x : α}, x ∈ l → p x
  | [], _, _, h => nomatch h
  | _ :: _, H, _, h => (List.mem_cons.mp h).elim (fun e => e ▸ H.1) (fun e => All.mem H.2 e)
def el (ty : FieldType) (ob : Rec) (k : Nat) (j : Int32) : Value := match ty with
  | .long => .long (ob.2.2 k j)
  | _ => .int (ob.2.1 k j)
def aD (ty : FieldType) : String := match ty with
  | .int => "[I"
  | .boolean => "[Z"
  | _ => "[J"
abbrev Cls : Type := String × List (String × String) × List (String × FieldType × Int32)
abbrev mem1 (k : Nat) {d : Jvm.Cond} (h : tables_1[k]? = some d) : d ∈ tables_1 := List.mem_of_getElem? h
abbrev sOk (C : String) (nd : String × String) : Prop := (Jvm.Cond.lays C C nd.1 nd.2 ∈ tables_1 ∨ Jvm.Cond.laysFinal C C nd.1 nd.2 ∈ tables_1) ∧ (nd.2 = "I" ∨ nd.2 = "Z")
abbrev aOk (C : String) (t : String × FieldType × Int32) : Prop := (Jvm.Cond.lays C C t.1 (aD t.2.1) ∈ tables_1 ∨ Jvm.Cond.laysFinal C C t.1 (aD t.2.1) ∈ tables_1) ∧ (t.2.1 = .int ∨ t.2.1 = .boolean ∨ t.2.1 = .long) ∧ ¬ t.2.2 < 0
def K : Cls := ("WsClockPager", [("procs", "I"), ("pages", "I"), ("frames", "I"), ("tau", "I"), ("status", "I"), ("suspensionCount", "I"), ("readmissionCount", "I"), ("hand", "I")], [("suspended", .boolean, 4), ("vtime", .int, 4), ("winLen", .int, 4), ("winHead", .int, 4), ("wsSize", .int, 4), ("touchedCount", .int, 4), ("ring", .int, 64), ("winCount", .int, 64), ("touched", .boolean, 64), ("pageFrame", .int, 64), ("pageSlot", .int, 64), ("pageLastUse", .int, 64), ("frameOwner", .int, 32), ("frameRef", .boolean, 32), ("frameDirty", .boolean, 32), ("frameWords", .int, 128), ("slotUsed", .boolean, 64), ("swapWords", .int, 256)])
theorem kS : All (sOk K.1) K.2.1 := ⟨⟨Or.inl (mem1 52 rfl), Or.inl rfl⟩, ⟨Or.inl (mem1 54 rfl), Or.inl rfl⟩, ⟨Or.inl (mem1 56 rfl), Or.inl rfl⟩, ⟨Or.inl (mem1 58 rfl), Or.inl rfl⟩, ⟨Or.inl (mem1 60 rfl), Or.inl rfl⟩, ⟨Or.inl (mem1 62 rfl), Or.inl rfl⟩, ⟨Or.inl (mem1 64 rfl), Or.inl rfl⟩, ⟨Or.inl (mem1 66 rfl), Or.inl rfl⟩, trivial⟩
theorem kA : All (aOk K.1) K.2.2 := ⟨⟨Or.inl (mem1 11 rfl), Or.inr (Or.inl rfl), by decide⟩, ⟨Or.inl (mem1 14 rfl), Or.inl rfl, by decide⟩, ⟨Or.inl (mem1 16 rfl), Or.inl rfl, by decide⟩, ⟨Or.inl (mem1 18 rfl), Or.inl rfl, by decide⟩, ⟨Or.inl (mem1 20 rfl), Or.inl rfl, by decide⟩, ⟨Or.inl (mem1 22 rfl), Or.inl rfl, by decide⟩, ⟨Or.inl (mem1 24 rfl), Or.inl rfl, by decide⟩, ⟨Or.inl (mem1 26 rfl), Or.inl rfl, by decide⟩, ⟨Or.inl (mem1 28 rfl), Or.inr (Or.inl rfl), by decide⟩, ⟨Or.inl (mem1 30 rfl), Or.inl rfl, by decide⟩, ⟨Or.inl (mem1 32 rfl), Or.inl rfl, by decide⟩, ⟨Or.inl (mem1 34 rfl), Or.inl rfl, by decide⟩, ⟨Or.inl (mem1 36 rfl), Or.inl rfl, by decide⟩, ⟨Or.inl (mem1 38 rfl), Or.inr (Or.inl rfl), by decide⟩, ⟨Or.inl (mem1 40 rfl), Or.inr (Or.inl rfl), by decide⟩, ⟨Or.inl (mem1 42 rfl), Or.inl rfl, by decide⟩, ⟨Or.inl (mem1 44 rfl), Or.inr (Or.inl rfl), by decide⟩, ⟨Or.inl (mem1 46 rfl), Or.inl rfl, by decide⟩, trivial⟩
abbrev kN : Nat := 26
theorem kI : Jvm.Cond.instantiable K.1 kN ∈ tables_1 := mem1 1 rfl
theorem kZ : Jvm.Cond.initialized K.1 ∈ tables_1 := mem1 2 rfl
theorem kNm : (K.2.1.map (·.1) ++ K.2.2.map (·.1)).Nodup := by decide +kernel
theorem nm_ss {k k' : Nat} {nd nd' : String × String} (h : K.2.1[k]? = some nd) (h' : K.2.1[k']? = some nd') (ne : k ≠ k') : nd.1 ≠ nd'.1 := fun e => by
  have l := (List.getElem?_eq_some_iff.mp h).1
  have l' := (List.getElem?_eq_some_iff.mp h').1
  refine ne ((List.getElem?_inj (l := K.2.1.map (·.1) ++ K.2.2.map (·.1)) (i := k) (j := k') (by simp; omega) kNm).mp ?_)
  rw [List.getElem?_append_left (by simpa using l), List.getElem?_append_left (by simpa using l'), List.getElem?_map, List.getElem?_map, h, h']
  simp [e]
theorem nm_aa {k k' : Nat} {t t' : String × FieldType × Int32} (h : K.2.2[k]? = some t) (h' : K.2.2[k']? = some t') (ne : k ≠ k') : t.1 ≠ t'.1 := fun e => by
  have l := (List.getElem?_eq_some_iff.mp h).1
  have l' := (List.getElem?_eq_some_iff.mp h').1
  have q := (List.getElem?_inj (l := K.2.1.map (·.1) ++ K.2.2.map (·.1)) (i := K.2.1.length + k) (j := K.2.1.length + k') (by simp; omega) kNm).mp (by
    rw [List.getElem?_append_right (by simp), List.getElem?_append_right (by simp)]
    simp [h, h', e])
  omega
theorem nm_sa {k k' : Nat} {nd : String × String} {t : String × FieldType × Int32} (h : K.2.1[k]? = some nd) (h' : K.2.2[k']? = some t) : nd.1 ≠ t.1 := fun e => by
  have l := (List.getElem?_eq_some_iff.mp h).1
  have l' := (List.getElem?_eq_some_iff.mp h').1
  have q := (List.getElem?_inj (l := K.2.1.map (·.1) ++ K.2.2.map (·.1)) (i := k) (j := K.2.1.length + k') (by simp; omega) kNm).mp (by
    rw [List.getElem?_append_left (by simpa using l), List.getElem?_append_right (by simp)]
    simp [h, h', e])
  omega
abbrev Ctx : Type := Launch × State × Nat × Array Value
def Ok (C : Ctx) : Prop := ∀ d ∈ tables_1, d.before C.2.2.2 C.2.1 = true
def ArrAt (Z : State) (h : Heap) (b : Nat) (ty : FieldType) (len : Int32) (v : Int32 → Value) : Prop := ∃ cl : Cell, Arr Z h b cl ty ∧ cl.slots.size = len.toNatClampNeg ∧ ∀ j : Int32, ¬ j < 0 → j < len → cl.slots[j.toNatClampNeg]? = some (v j)
def ObjAt (Z : State) (h : Heap) (a : Nat) (q : Nat) (ob : Rec) : Prop :=
  Exa Z h a K.1 ∧ (∀ k nd, K.2.1[k]? = some nd → Fld Z h a K.1 nd.1 nd.2 (.int (ob.1 k))) ∧
  (∀ k t, K.2.2[k]? = some t → k < q → Fld Z h a K.1 t.1 (aD t.2.1) (.ref (a + 1 + k)) ∧ ArrAt Z h (a + 1 + k) t.2.1 t.2.2 (el t.2.1 ob k)) ∧
  (∀ k t, K.2.2[k]? = some t → q ≤ k → Fld Z h a K.1 t.1 (aD t.2.1) .null)
abbrev AH : Type := Nat × List (Nat × Nat × Rec)
def Rep (Z : State) (n0 : Nat) (h : Heap) (G : AH) : Prop :=
  h.size = G.1 ∧ Old Z n0 h ∧ (∀ x ∈ G.2, n0 ≤ x.1 ∧ x.1 + x.2.1 < G.1 ∧ ObjAt Z h x.1 x.2.1 x.2.2) ∧ G.2.Pairwise (fun x y => x.1 + x.2.1 < y.1 ∨ y.1 + y.2.1 < x.1)
section Facts
variable {Z : State} {h h' : Heap} {a b : Nat} {q k n0 top : Nat} {ob ob' : Rec} {nd : String × String} {t : String × FieldType × Int32} {a0 : Array Value} {sl : Nat} {v : Value} {H : List (Nat × Nat × Rec)} {G : AH}
theorem fld_fr {C n d : String} (e : h'[a]? = h[a]?) (F : Fld Z h a C n d v) : Fld Z h' a C n d v := by
  obtain ⟨cell, cf, k, i, f, h1, r⟩ := F; exact ⟨cell, cf, k, i, f, e.trans h1, r⟩
theorem exa_fr {C : String} (e : h'[a]? = h[a]?) (F : Exa Z h a C) : Exa Z h' a C := by
  obtain ⟨cell, k, h1, r⟩ := F; exact ⟨cell, k, e.trans h1, r⟩
theorem arrAt_fr {ty : FieldType} {len : Int32} {w : Int32 → Value} (e : h'[a]? = h[a]?) (F : ArrAt Z h a ty len w) : ArrAt Z h' a ty len w := by
  obtain ⟨cl, A, r⟩ := F; exact ⟨cl, ⟨e.trans A.1, A.2⟩, r⟩
theorem ObjAt.frame (e : ∀ b, a ≤ b → b ≤ a + q → h'[b]? = h[b]?) (F : ObjAt Z h a q ob) : ObjAt Z h' a q ob := by
  have e0 := e a (Nat.le_refl _) (Nat.le_add_right _ _)
  refine ⟨exa_fr e0 F.1, fun k nd hk => fld_fr e0 (F.2.1 k nd hk), fun k t hk hq => ⟨fld_fr e0 (F.2.2.1 k t hk hq).1, arrAt_fr (e _ (by omega) (by omega)) (F.2.2.1 k t hk hq).2⟩, fun k t hk hq => fld_fr e0 (F.2.2.2 k t hk hq)⟩
theorem ObjAt.ext (E : Ext h h') (F : ObjAt Z h a q ob) : ObjAt Z h' a q ob := by
  refine ⟨F.1.ext E, fun k nd hk => (F.2.1 k nd hk).ext E, fun k t hk hq => ⟨(F.2.2.1 k t hk hq).1.ext E, ?_⟩, fun k t hk hq => (F.2.2.2 k t hk hq).ext E⟩
  obtain ⟨cl, A, r⟩ := (F.2.2.1 k t hk hq).2; exact ⟨cl, A.ext E, r⟩
theorem wr_ne (W : Wr h h' a sl v) (ne : b ≠ a) : h'[b]? = h[b]? := by
  obtain ⟨cell, -, -, -, rfl⟩ := W; exact Array.getElem?_setIfInBounds_ne (Ne.symm ne)
theorem laidS (hw : ∀ d ∈ tables_1, d.before a0 Z = true) (hk : K.2.1[k]? = some nd) : Laid Z a0 K.1 K.1 nd.1 nd.2 := ((All.mem kS (List.mem_of_getElem? hk)).1).imp (hw _) (hw _)
theorem laidA (hw : ∀ d ∈ tables_1, d.before a0 Z = true) (hk : K.2.2[k]? = some t) : Laid Z a0 K.1 K.1 t.1 (aD t.2.1) := ((All.mem kA (List.mem_of_getElem? hk)).1).imp (hw _) (hw _)
theorem pfS (hk : K.2.1[k]? = some nd) : ∃ ty, parseFieldDescriptor nd.2 = some ty := by
  rcases (All.mem kS (List.mem_of_getElem? hk)).2 with e | e <;> rw [e]
  · exact ⟨.int, by decide⟩
  · exact ⟨.boolean, by decide⟩
theorem pfA (hk : K.2.2[k]? = some t) : parseFieldDescriptor (aD t.2.1) = some (.array t.2.1) := by
  rcases (All.mem kA (List.mem_of_getElem? hk)).2.1 with e | e | e <;> rw [e] <;> decide
theorem ObjAt.putI {x : Int32} (hw : ∀ d ∈ tables_1, d.before a0 Z = true) (F : ObjAt Z h a q ob) (hk : K.2.1[k]? = some nd) (W : Wr h h' a (Jvm.RoadKit.slotOf Z K.1 nd.1 nd.2) (.int x)) : ObjAt Z h' a q (sI ob k x) := by
  obtain ⟨ty, hty⟩ := pfS hk
  refine ⟨F.1.wr W, fun k' nd' hk' => ?_, fun k' t hk' hq => ⟨(F.2.2.1 k' t hk' hq).1.other W (Or.inr (Jvm.RoadKit.slot_ne (laidA hw hk') (laidS hw hk) (Ne.symm (nm_sa hk hk')) (pfA hk') hty)), ?_⟩, fun k' t hk' hq => (F.2.2.2 k' t hk' hq).other W (Or.inr (Jvm.RoadKit.slot_ne (laidA hw hk') (laidS hw hk) (Ne.symm (nm_sa hk hk')) (pfA hk') hty))⟩
  · by_cases e : k' = k
    · subst e; cases hk.symm.trans hk'
      have := (F.2.1 k' nd hk).same W
      simpa [sI] using this
    · obtain ⟨ty', hty'⟩ := pfS hk'
      have := (F.2.1 k' nd' hk').other W (Or.inr (Jvm.RoadKit.slot_ne (laidS hw hk') (laidS hw hk) (nm_ss hk' hk e) hty' hty))
      simpa [sI, e] using this
  · have := arrAt_fr (wr_ne W (by omega)) (F.2.2.1 k' t hk' hq).2
    have e : el t.2.1 (sI ob k x) k' = el t.2.1 ob k' := by funext j; unfold el; split <;> rfl
    rw [e]; exact this
theorem ObjAt.putA (F : ObjAt Z h a q ob) (hk : K.2.2[k]? = some t) (hq : k < q) {x : Value} {j : Int32} (hj : ¬ j < 0 ∧ j < t.2.2) (W : Wr h h' (a + 1 + k) j.toNatClampNeg x)
    (e1 : el t.2.1 ob' k = fun i => if i = j then x else el t.2.1 ob k i) (e2 : ∀ k' t', k' ≠ k → el t' ob' k' = el t' ob k') (e3 : ob'.1 = ob.1) : ObjAt Z h' a q ob' := by
  have u : h'[a]? = h[a]? := wr_ne W (by omega)
  refine ⟨exa_fr u F.1, fun k' nd hk' => by rw [e3]; exact fld_fr u (F.2.1 k' nd hk'), fun k' t' hk' hq' => ⟨fld_fr u (F.2.2.1 k' t' hk' hq').1, ?_⟩, fun k' t' hk' hq' => fld_fr u (F.2.2.2 k' t' hk' hq')⟩
  by_cases e : k' = k
  · subst e; cases hk.symm.trans hk'
    obtain ⟨cl, A, S, V⟩ := (F.2.2.1 k' t hk hq).2
    have inb : ¬ (j < 0 ∨ cl.slots.size ≤ j.toNatClampNeg) := inb_of S hj
    refine ⟨_, A.same W, by rw [sz_set]; exact S, fun i h0 h1 => ?_⟩
    rw [e1]
    by_cases ei : i = j
    · simp only [ei, if_true]; exact get_hit inb rfl
    · simp only [ei, if_false]; rw [get_miss hj.1 h0 ei]; exact V i h0 h1
  · rw [e2 k' _ e]; exact arrAt_fr (wr_ne W (by omega)) (F.2.2.1 k' t' hk' hq').2
theorem el_sA {ty : FieldType} (ht : ty ≠ .long) (j x : Int32) : el ty (sA ob k j x) k = fun i => if i = j then .int x else el ty ob k i := by
  funext i; cases ty <;> first | exact absurd rfl ht | (simp only [el, sA, true_and]; split <;> rfl)
theorem el_sJ (j : Int32) (x : Int64) : el .long (sJ ob k j x) k = fun i => if i = j then .long x else el .long ob k i := by
  funext i; simp only [el, sJ, true_and]; split <;> rfl
theorem el_sA' (j x : Int32) (k' : Nat) (t' : FieldType) (ne : k' ≠ k) : el t' (sA ob k j x) k' = el t' ob k' := by
  funext i; cases t' <;> simp [el, sA, ne]
theorem el_sJ' (j : Int32) (x : Int64) (k' : Nat) (t' : FieldType) (ne : k' ≠ k) : el t' (sJ ob k j x) k' = el t' ob k' := by
  funext i; cases t' <;> simp [el, sJ, ne]
theorem Rep.upd (R : Rep Z n0 h (top, (a, q, ob) :: H)) (hs : h'.size = h.size) (hO : Old Z n0 h') (e : ∀ b, (b < a ∨ a + q < b) → h'[b]? = h[b]?) (F : ObjAt Z h' a q ob') : Rep Z n0 h' (top, (a, q, ob') :: H) := by
  obtain ⟨r1, r2, r3, r4⟩ := R
  refine ⟨hs.trans r1, hO, fun x hx => ?_, ?_⟩
  · rcases List.mem_cons.mp hx with rfl | hx
    · exact ⟨(r3 _ (List.mem_cons_self ..)).1, (r3 _ (List.mem_cons_self ..)).2.1, F⟩
    · obtain ⟨p1, p2, p3⟩ := r3 x (List.mem_cons_of_mem _ hx)
      refine ⟨p1, p2, p3.frame fun b h1 h2 => e b ?_⟩
      have := (List.pairwise_cons.mp r4).1 x hx
      simp only at this
      omega
  · have := List.pairwise_cons.mp r4
    exact List.pairwise_cons.mpr ⟨fun y hy => this.1 y hy, this.2⟩
theorem Rep.objs (R : Rep Z n0 h (top, (a, q, ob) :: H)) : n0 ≤ a ∧ a + q < top ∧ ObjAt Z h a q ob := R.2.2.1 _ (List.mem_cons_self ..)
theorem Rep.putI {x : Int32} (hw : ∀ d ∈ tables_1, d.before a0 Z = true) (R : Rep Z n0 h (top, (a, q, ob) :: H)) (hk : K.2.1[k]? = some nd) (W : Wr h h' a (Jvm.RoadKit.slotOf Z K.1 nd.1 nd.2) (.int x)) : Rep Z n0 h' (top, (a, q, sI ob k x) :: H) :=
  R.upd W.size (R.2.1.wr W R.objs.1) (fun b hb => wr_ne W (by omega)) (R.objs.2.2.putI hw hk W)
theorem Rep.putA {x j : Int32} (R : Rep Z n0 h (top, (a, q, ob) :: H)) (hk : K.2.2[k]? = some t) (hq : k < q) (ht : t.2.1 ≠ .long) (hj : ¬ j < 0 ∧ j < t.2.2) (W : Wr h h' (a + 1 + k) j.toNatClampNeg (.int x)) : Rep Z n0 h' (top, (a, q, sA ob k j x) :: H) :=
  R.upd W.size (R.2.1.wr W (by have := R.objs.1; omega)) (fun b hb => wr_ne W (by omega)) (R.objs.2.2.putA hk hq hj W (el_sA ht j x) (fun k' t' ne => el_sA' j x k' t' ne) rfl)
theorem Rep.putJ {j : Int32} {x : Int64} (R : Rep Z n0 h (top, (a, q, ob) :: H)) (hk : K.2.2[k]? = some t) (hq : k < q) (ht : t.2.1 = .long) (hj : ¬ j < 0 ∧ j < t.2.2) (W : Wr h h' (a + 1 + k) j.toNatClampNeg (.long x)) : Rep Z n0 h' (top, (a, q, sJ ob k j x) :: H) :=
  R.upd W.size (R.2.1.wr W (by have := R.objs.1; omega)) (fun b hb => wr_ne W (by omega)) (R.objs.2.2.putA hk hq hj W (by rw [ht]; exact el_sJ j x) (fun k' t' ne => el_sJ' j x k' t' ne) rfl)
theorem Rep.swap {x y : Nat × Nat × Rec} (R : Rep Z n0 h (top, x :: y :: H)) : Rep Z n0 h (top, y :: x :: H) := by
  obtain ⟨r1, r2, r3, r4⟩ := R
  refine ⟨r1, r2, fun z hz => r3 z ?_, ?_⟩
  · simp only [List.mem_cons] at hz ⊢
    rcases hz with e | e | e
    · exact Or.inr (Or.inl e)
    · exact Or.inl e
    · exact Or.inr (Or.inr e)
  · simp only [List.pairwise_cons, List.mem_cons] at r4 ⊢
    obtain ⟨p1, p2, p3⟩ := r4
    refine ⟨fun z hz => ?_, fun z hz => p1 z (Or.inr hz), p3⟩
    rcases hz with rfl | hz
    · exact (p1 _ (Or.inl rfl)).symm
    · exact p2 z hz
theorem ObjAt.addA (hw : ∀ d ∈ tables_1, d.before a0 Z = true) (F : ObjAt Z h a k ob) (hk : K.2.2[k]? = some t) (A : ArrAt Z h (a + 1 + k) t.2.1 t.2.2 (el t.2.1 ob k)) (W : Wr h h' a (Jvm.RoadKit.slotOf Z K.1 t.1 (aD t.2.1)) (.ref (a + 1 + k))) : ObjAt Z h' a (k + 1) ob := by
  refine ⟨F.1.wr W, fun k' nd hk' => ?_, fun k' t' hk' hq => ?_, fun k' t' hk' hq => ?_⟩
  · obtain ⟨ty', hty'⟩ := pfS hk'
    exact (F.2.1 k' nd hk').other W (Or.inr (Jvm.RoadKit.slot_ne (laidS hw hk') (laidA hw hk) (nm_sa hk' hk) hty' (pfA hk)))
  · by_cases e : k' = k
    · subst e
      have et : t = t' := Option.some.inj (hk.symm.trans hk')
      subst et
      exact ⟨(F.2.2.2 k' t hk (Nat.le_refl _)).same W, arrAt_fr (wr_ne W (by omega)) A⟩
    · obtain ⟨f1, f2⟩ := F.2.2.1 k' t' hk' (by omega)
      exact ⟨f1.other W (Or.inr (Jvm.RoadKit.slot_ne (laidA hw hk') (laidA hw hk) (nm_aa hk' hk e) (pfA hk') (pfA hk))), arrAt_fr (wr_ne W (by omega)) f2⟩
  · exact (F.2.2.2 k' t' hk' (by omega)).other W (Or.inr (Jvm.RoadKit.slot_ne (laidA hw hk') (laidA hw hk) (nm_aa hk' hk (by omega)) (pfA hk') (pfA hk)))
theorem Rep.addA {h1 h2 : Heap} (hw : ∀ d ∈ tables_1, d.before a0 Z = true) (R : Rep Z n0 h (top, (a, k, ob) :: H)) (E : Ext h h1) (s1 : h1.size = top + 1) (htop : top = a + 1 + k) (hk : K.2.2[k]? = some t) (A : ArrAt Z h1 top t.2.1 t.2.2 (el t.2.1 ob k)) (W : Wr h1 h2 a (Jvm.RoadKit.slotOf Z K.1 t.1 (aD t.2.1)) (.ref top)) : Rep Z n0 h2 (top + 1, (a, k + 1, ob) :: H) := by
  obtain ⟨q1, q2, q3⟩ := R.objs
  have hp := List.pairwise_cons.mp R.2.2.2
  have hO : ObjAt Z h2 a (k + 1) ob := by
    subst htop
    exact (q3.ext E).addA hw hk A W
  refine ⟨W.size.trans s1, (R.2.1.ext E).wr W q1, List.forall_mem_cons.mpr ⟨⟨q1, ?_, hO⟩, fun x hx => ?_⟩, List.pairwise_cons.mpr ⟨fun y hy => ?_, hp.2⟩⟩
  · show a + (k + 1) < top + 1; omega
  · obtain ⟨p1, p2, p3⟩ := R.2.2.1 x (List.mem_cons_of_mem _ hx)
    have u1 : a + k < x.1 ∨ x.1 + x.2.1 < a := hp.1 x hx
    have u2 : x.1 + x.2.1 < top := p2
    exact ⟨p1, Nat.lt_succ_of_lt u2, (p3.ext E).frame fun b h1 h2 => wr_ne W (by omega)⟩
  · have u1 : a + k < y.1 ∨ y.1 + y.2.1 < a := hp.1 y hy
    have u2 : y.1 + y.2.1 < top := (R.2.2.1 y (List.mem_cons_of_mem _ hy)).2.1
    show a + (k + 1) < y.1 ∨ y.1 + y.2.1 < a
    omega
theorem arr_new {cA : ClassId} {ty : FieldType} {len : Int32} (A : Arr Z h b (newA cA ty len) ty) (hts : ty = .int ∨ ty = .boolean ∨ ty = .long) (hz : (∀ i, ob.2.1 k i = 0) ∧ (∀ i, ob.2.2 k i = 0)) : ArrAt Z h b ty len (el ty ob k) := by
  refine ⟨_, A, sz_new _ _ _, fun i h0 h1 => ?_⟩
  have hi : ¬ (i < 0 ∨ len.toNatClampNeg ≤ i.toNatClampNeg) := by
    have e0 : (0 : Int32).toInt = 0 := rfl
    simp only [Int32.lt_iff_toInt_lt, Int32.toNatClampNeg] at *
    omega
  rw [get_new hi]
  rcases hts with rfl | rfl | rfl
  · show some (Value.int 0) = some (Value.int (ob.2.1 k i)); rw [hz.1]
  · show some (Value.int 0) = some (Value.int (ob.2.1 k i)); rw [hz.1]
  · show some (Value.long 0) = some (Value.long (ob.2.2 k i)); rw [hz.2]
theorem Rep.start (s : State) : Rep s s.heap.size s.heap (s.heap.size, []) := ⟨rfl, Old.start s, fun x hx => (by cases hx), List.Pairwise.nil⟩
end Facts
/- bodies, decode facts, patterns of local variables -/
abbrev Bdy : Type := MethodName × ByteArray × Nat × Option FieldType × Room
def DAt (M : Bdy) (pc : Nat) (i : Instr) (n q : Nat) : Prop := decode M.2.1 pc = .ok (i, n) ∧ q = pc + n
abbrev Pat : Type := List (Option Slot)
abbrev vi (x : Int32) : Option Slot := some (.val (.int x))
abbrev vl (x : Int64) : Option Slot := some (.val (.long x))
abbrev vr (a : Nat) : Option Slot := some (.val (.ref a))
abbrev v2 : Option Slot := some .second
abbrev vn : Option Slot := none
def pget : Pat → Nat → Option Slot
  | [], _ => none
  | x :: _, 0 => x
  | _ :: l, n + 1 => pget l n
theorem pget_eq : ∀ (P : Pat) (i : Nat), pget P i = (P[i]?).join
  | [], _ => by simp [pget]
  | x :: l, 0 => by simp [pget]
  | x :: l, n + 1 => by simp [pget, pget_eq l n]
def pput : Pat → Nat → Option Slot → Pat
  | [], _, _ => []
  | _ :: l, 0, y => y :: l
  | x :: l, n + 1, y => x :: pput l n y
theorem pget_pput : ∀ (P : Pat) (i j : Nat) (y : Option Slot) (s : Slot), pget (pput P i y) j = some s → (j = i ∧ y = some s) ∨ (j ≠ i ∧ pget P j = some s)
  | [], _, _, _, _, h => by simp [pput, pget] at h
  | x :: l, 0, 0, y, s, h => Or.inl ⟨rfl, h⟩
  | x :: l, 0, j + 1, y, s, h => Or.inr ⟨by omega, h⟩
  | x :: l, i + 1, 0, y, s, h => Or.inr ⟨by omega, h⟩
  | x :: l, i + 1, j + 1, y, s, h => by
    rcases pget_pput l i j y s h with ⟨e, r⟩ | ⟨e, r⟩
    · exact Or.inl ⟨by omega, r⟩
    · exact Or.inr ⟨by omega, r⟩
/-- a two-word value whose first word is at i is forgotten -/
def pk1 (P : Pat) (i : Nat) : Pat := match pget P i with
  | some (.val (.long _)) => pput P i none
  | some (.val (.double _)) => pput P i none
  | _ => P
def pk2 (P : Pat) (i : Nat) : Pat := match pget P i with
  | some .second => pput P i none
  | _ => P
def pkp (P : Pat) : Nat → Pat
  | 0 => P
  | i + 1 => pk1 P i
def ps1 (P : Pat) (i : Nat) (v : Value) : Pat := pput (pk2 (pkp P i) (i + 1)) i (some (.val v))
def ps2 (P : Pat) (i : Nat) (v : Value) : Pat := pput (pput (pk2 (pkp P i) (i + 2)) i (some (.val v))) (i + 1) (some .second)
def WFl (L : Array Slot) : Prop := (∀ i : Nat, L[i]? = some .second → ∃ (j : Nat) (v : Value), i = j + 1 ∧ L[j]? = some (.val v) ∧ v.category = 2) ∧ (∀ (i : Nat) (v : Value), L[i]? = some (.val v) → v.category = 2 → L[i + 1]? = some .second)
def Fits (P : Pat) (L : Array Slot) : Prop := (∀ i s, pget P i = some s → L[i]? = some s) ∧ WFl L
theorem pk1_sub {P : Pat} {i j : Nat} {s : Slot} (h : pget (pk1 P i) j = some s) : pget P j = some s ∧ (j = i → ∀ w : Value, s = .val w → w.category = 1) := by
  unfold pk1 at h
  split at h
  · rcases pget_pput _ _ _ _ _ h with ⟨-, e⟩ | ⟨e, r⟩
    · cases e
    · exact ⟨r, fun q => absurd q e⟩
  · rcases pget_pput _ _ _ _ _ h with ⟨-, e⟩ | ⟨e, r⟩
    · cases e
    · exact ⟨r, fun q => absurd q e⟩
  · rename_i h1 h2
    refine ⟨h, fun q w e => ?_⟩
    subst q e
    cases w <;> first | rfl | exact absurd h (h1 _) | exact absurd h (h2 _)
theorem pk2_sub {P : Pat} {i j : Nat} {s : Slot} (h : pget (pk2 P i) j = some s) : pget P j = some s ∧ (j = i → s ≠ .second) := by
  unfold pk2 at h
  split at h
  · rcases pget_pput _ _ _ _ _ h with ⟨-, e⟩ | ⟨e, r⟩
    · cases e
    · exact ⟨r, fun q => absurd q e⟩
  · rename_i h1
    refine ⟨h, fun q e => ?_⟩
    subst q e; exact h1 h
theorem pkp_sub {P : Pat} {i j : Nat} {s : Slot} (h : pget (pkp P i) j = some s) : pget P j = some s ∧ (j + 1 = i → ∀ w : Value, s = .val w → w.category = 1) := by
  cases i with
  | zero => exact ⟨h, fun q => by omega⟩
  | succ i => obtain ⟨h1, h2⟩ := pk1_sub (show pget (pk1 P i) j = some s from h); exact ⟨h1, fun q => h2 (by omega)⟩
theorem setAt_eq {L : Array Slot} {i : Nat} {x : Slot} (hi : i < L.size) : Jvm.setAt L i x = some (L.setIfInBounds i x) := by simp [Jvm.setAt, hi]
theorem sl_second {L : Array Slot} {i : Nat} {v : Value} (ho : L[i]? = some .second) : storeLocals L i v = (Jvm.setAt L (i - 1) .unset).bind fun l => storeSelf l i v := by
  unfold storeLocals; rw [ho]; rfl
theorem sl_unset {L : Array Slot} {i : Nat} {v : Value} (ho : L[i]? = some .unset) : storeLocals L i v = storeSelf L i v := by
  unfold storeLocals; rw [ho]; rfl
theorem sl_val {L : Array Slot} {i : Nat} {v o : Value} (ho : L[i]? = some (.val o)) : storeLocals L i v = if o.category = 2 then (Jvm.setAt L (i + 1) .unset).bind fun l => storeSelf l i v else storeSelf L i v := by
  unfold storeLocals; rw [ho]; rfl
theorem ss_one {L : Array Slot} {i : Nat} {v : Value} (hi : i < L.size) (hv : ¬ v.category = 2) : storeSelf L i v = some (L.setIfInBounds i (.val v)) := by
  unfold storeSelf; rw [setAt_eq hi]; simp [hv]
theorem ss_two {L : Array Slot} {i : Nat} {v : Value} {o : Slot} (hi : i < L.size) (hv : v.category = 2) (ho : L[i + 1]? = some o) : storeSelf L i v = (match o with
    | .val old => if old.category = 2 then (Jvm.setAt (L.setIfInBounds i (.val v)) (i + 2) .unset).bind fun l => Jvm.setAt l (i + 1) .second else Jvm.setAt (L.setIfInBounds i (.val v)) (i + 1) .second
    | _ => Jvm.setAt (L.setIfInBounds i (.val v)) (i + 1) .second) := by
  have e : (L.setIfInBounds i (.val v))[i + 1]? = some o := by rw [Array.getElem?_setIfInBounds_ne (by omega)]; exact ho
  unfold storeSelf; rw [setAt_eq hi]
  show (if v.category = 2 then _ else _) = _
  rw [if_pos hv, e]
  cases o <;> rfl
theorem cat12 (v : Value) : v.category = 1 ∨ v.category = 2 := by cases v <;> first | exact Or.inl rfl | exact Or.inr rfl
/-- a one-word store: what stands elsewhere stays, but for the halves of a two-word value that it breaks -/
theorem store_one {L : Array Slot} {i : Nat} {v : Value} (hW : WFl L) (hi : i < L.size) (hv : v.category = 1) :
    ∃ L', storeLocals L i v = some L' ∧ L'.size = L.size ∧ WFl L' ∧ L'[i]? = some (.val v) ∧ ∀ j, j ≠ i → L'[j]? = L[j]? ∨ (j + 1 = i ∧ L[i]? = some .second) ∨ (j = i + 1 ∧ L[j]? = some .second) := by
  have hv2 : ¬ v.category = 2 := by omega
  cases ho : L[i]? with
  | none => rw [Array.getElem?_eq_none_iff] at ho; omega
  | some o =>
    cases o with
    | unset =>
      refine ⟨L.setIfInBounds i (.val v), ?_, by simp, ?_, by simp [hi], fun j hj => Or.inl (Array.getElem?_setIfInBounds_ne (Ne.symm hj))⟩
      · rw [sl_unset ho, ss_one hi hv2]
      · refine ⟨fun j hj => ?_, fun j w hj hw => ?_⟩
        · by_cases e : j = i
          · subst e; simp [hi] at hj
          · rw [Array.getElem?_setIfInBounds_ne (Ne.symm e)] at hj
            obtain ⟨j', w, e1, e2, e3⟩ := hW.1 j hj
            refine ⟨j', w, e1, ?_, e3⟩
            rw [Array.getElem?_setIfInBounds_ne]; exact e2
            intro q; subst q; rw [ho] at e2; cases e2
        · by_cases e : j = i
          · subst e; simp [hi] at hj; subst hj; omega
          · rw [Array.getElem?_setIfInBounds_ne (Ne.symm e)] at hj
            have := hW.2 j w hj hw
            rw [Array.getElem?_setIfInBounds_ne]; exact this
            intro q; subst q; rw [ho] at this; cases this
    | second =>
      obtain ⟨j0, w0, rfl, f2, f3⟩ := hW.1 i ho
      have hj0 : j0 < L.size := by omega
      refine ⟨(L.setIfInBounds j0 .unset).setIfInBounds (j0 + 1) (.val v), ?_, by simp, ?_, by simp [hi], fun j hj => ?_⟩
      · rw [sl_second ho, show j0 + 1 - 1 = j0 from rfl, setAt_eq hj0]; exact ss_one (by simpa using hi) hv2
      · refine ⟨fun j hj => ?_, fun j w hj hw => ?_⟩
        · by_cases e : j = j0 + 1
          · subst e; simp [hi] at hj
          · rw [Array.getElem?_setIfInBounds_ne (Ne.symm e)] at hj
            by_cases e' : j = j0
            · subst e'; simp [hj0] at hj
            · rw [Array.getElem?_setIfInBounds_ne (Ne.symm e')] at hj
              obtain ⟨j', w, e1, e2, e3⟩ := hW.1 j hj
              refine ⟨j', w, e1, ?_, e3⟩
              rw [Array.getElem?_setIfInBounds_ne, Array.getElem?_setIfInBounds_ne]
              · exact e2
              · intro q; subst q; omega
              · intro q; subst q; rw [ho] at e2; cases e2
        · by_cases e : j = j0 + 1
          · subst e; simp [hi] at hj; subst hj; omega
          · rw [Array.getElem?_setIfInBounds_ne (Ne.symm e)] at hj
            by_cases e' : j = j0
            · subst e'; simp [hj0] at hj
            · rw [Array.getElem?_setIfInBounds_ne (Ne.symm e')] at hj
              have := hW.2 j w hj hw
              rw [Array.getElem?_setIfInBounds_ne, Array.getElem?_setIfInBounds_ne]
              · exact this
              · intro q; subst q; rw [f2] at this; cases this
              · omega
      · by_cases e' : j = j0
        · exact Or.inr (Or.inl ⟨by omega, rfl⟩)
        · left; rw [Array.getElem?_setIfInBounds_ne (Ne.symm hj), Array.getElem?_setIfInBounds_ne (Ne.symm e')]
    | val old =>
      by_cases hc : old.category = 2
      · have f2 := hW.2 i old ho hc
        have hi1 : i + 1 < L.size := (Array.getElem?_eq_some_iff.mp f2).1
        refine ⟨(L.setIfInBounds (i + 1) .unset).setIfInBounds i (.val v), ?_, by simp, ?_, by simp [hi], fun j hj => ?_⟩
        · rw [sl_val ho, if_pos hc, setAt_eq hi1]; exact ss_one (by simpa using hi) hv2
        · refine ⟨fun j hj => ?_, fun j w hj hw => ?_⟩
          · by_cases e : j = i
            · subst e; simp [hi] at hj
            · rw [Array.getElem?_setIfInBounds_ne (Ne.symm e)] at hj
              by_cases e' : j = i + 1
              · subst e'; simp [hi1] at hj
              · rw [Array.getElem?_setIfInBounds_ne (Ne.symm e')] at hj
                obtain ⟨j', w, e1, e2, e3⟩ := hW.1 j hj
                refine ⟨j', w, e1, ?_, e3⟩
                rw [Array.getElem?_setIfInBounds_ne, Array.getElem?_setIfInBounds_ne]
                · exact e2
                · intro q; subst q; rw [f2] at e2; cases e2
                · omega
          · by_cases e : j = i
            · subst e; simp [hi] at hj; subst hj; omega
            · rw [Array.getElem?_setIfInBounds_ne (Ne.symm e)] at hj
              by_cases e' : j = i + 1
              · subst e'; simp [hi1] at hj
              · rw [Array.getElem?_setIfInBounds_ne (Ne.symm e')] at hj
                have := hW.2 j w hj hw
                rw [Array.getElem?_setIfInBounds_ne, Array.getElem?_setIfInBounds_ne]
                · exact this
                · omega
                · intro q; subst q; rw [ho] at this; cases this
        · by_cases e' : j = i + 1
          · subst e'; exact Or.inr (Or.inr ⟨rfl, f2⟩)
          · left; rw [Array.getElem?_setIfInBounds_ne (Ne.symm hj), Array.getElem?_setIfInBounds_ne (Ne.symm e')]
      · refine ⟨L.setIfInBounds i (.val v), ?_, by simp, ?_, by simp [hi], fun j hj => Or.inl (Array.getElem?_setIfInBounds_ne (Ne.symm hj))⟩
        · rw [sl_val ho, if_neg hc, ss_one hi hv2]
        · refine ⟨fun j hj => ?_, fun j w hj hw => ?_⟩
          · by_cases e : j = i
            · subst e; simp [hi] at hj
            · rw [Array.getElem?_setIfInBounds_ne (Ne.symm e)] at hj
              obtain ⟨j', w, e1, e2, e3⟩ := hW.1 j hj
              refine ⟨j', w, e1, ?_, e3⟩
              rw [Array.getElem?_setIfInBounds_ne]; exact e2
              intro q; subst q; rw [ho] at e2; cases e2; omega
          · by_cases e : j = i
            · subst e; simp [hi] at hj; subst hj; omega
            · rw [Array.getElem?_setIfInBounds_ne (Ne.symm e)] at hj
              have := hW.2 j w hj hw
              rw [Array.getElem?_setIfInBounds_ne]; exact this
              intro q; subst q; rw [ho] at this; cases this
theorem Fits.store1 {P : Pat} {L : Array Slot} {i : Nat} {v : Value} (h : Fits P L) (hi : i < L.size) (hv : v.category = 1) :
    ∃ L', storeLocals L i v = some L' ∧ L'.size = L.size ∧ Fits (ps1 P i v) L' := by
  obtain ⟨L', e1, e2, e3, e4, e5⟩ := store_one h.2 hi hv
  refine ⟨L', e1, e2, fun j s hj => ?_, e3⟩
  rcases pget_pput _ _ _ _ _ hj with ⟨rfl, q⟩ | ⟨ne, q⟩
  · rw [e4]; exact q
  · obtain ⟨q1, q2⟩ := pk2_sub q
    obtain ⟨q3, q4⟩ := pkp_sub q1
    have hL := h.1 j s q3
    rcases e5 j ne with r | ⟨r1, r2⟩ | ⟨r1, r2⟩
    · rw [r]; exact hL
    · obtain ⟨j', w, z1, z2, z3⟩ := h.2.1 i r2
      have : j' = j := by omega
      subst this
      rw [hL] at z2; cases z2
      have := q4 r1 w rfl; omega
    · rw [hL] at r2; cases r2
      exact absurd rfl (q2 r1)
theorem st_ph1 {L : Array Slot} {i : Nat} {v : Value} (hW : WFl L) (hi : i + 1 < L.size) :
    ∃ A : Array Slot, storeLocals L i v = storeSelf A i v ∧ A.size = L.size ∧ (∀ j, j ≠ i → j ≠ i + 1 → A[j]? = L[j]? ∨ (j + 1 = i ∧ L[i]? = some .second ∧ A[j]? = some .unset)) ∧ (A[i + 1]? = L[i + 1]? ∨ (A[i + 1]? = some .unset ∧ L[i + 1]? = some .second)) ∧ (L[i]? = some .second → ∀ j, j + 1 = i → A[j]? = some .unset) := by
  have hi0 : i < L.size := by omega
  cases ho : L[i]? with
  | none => rw [Array.getElem?_eq_none_iff] at ho; omega
  | some o =>
    cases o with
    | unset => exact ⟨L, sl_unset ho, rfl, fun j _ _ => Or.inl rfl, Or.inl rfl, fun q => by cases q⟩
    | second =>
      obtain ⟨j0, w0, rfl, f2, f3⟩ := hW.1 i ho
      have hj0 : j0 < L.size := by omega
      refine ⟨L.setIfInBounds j0 .unset, by rw [sl_second ho, show j0 + 1 - 1 = j0 from rfl, setAt_eq hj0]; rfl, by simp, fun j h1 h2 => ?_, Or.inl (Array.getElem?_setIfInBounds_ne (by omega)), fun _ j hj => ?_⟩
      · by_cases e : j = j0
        · subst e; exact Or.inr ⟨rfl, rfl, by simp [hj0]⟩
        · exact Or.inl (Array.getElem?_setIfInBounds_ne (Ne.symm e))
      · have : j = j0 := by omega
        subst this; simp [hj0]
    | val old =>
      by_cases hc : old.category = 2
      · refine ⟨L.setIfInBounds (i + 1) .unset, by rw [sl_val ho, if_pos hc, setAt_eq hi]; rfl, by simp, fun j h1 h2 => Or.inl (Array.getElem?_setIfInBounds_ne (Ne.symm h2)), Or.inr ⟨by simp [hi], hW.2 i old ho hc⟩, fun q => by cases q⟩
      · exact ⟨L, by rw [sl_val ho, if_neg hc], rfl, fun j _ _ => Or.inl rfl, Or.inl rfl, fun q => by cases q⟩
theorem st_ph2 {A : Array Slot} {i : Nat} {v : Value} (hi : i + 1 < A.size) (hv : v.category = 2) (hn : ∀ w : Value, A[i + 1]? = some (.val w) → w.category = 2 → i + 2 < A.size) :
    ∃ L', storeSelf A i v = some L' ∧ L'.size = A.size ∧ L'[i]? = some (.val v) ∧ L'[i + 1]? = some .second ∧ (∀ j, j ≠ i → j ≠ i + 1 → L'[j]? = A[j]? ∨ (j = i + 2 ∧ L'[j]? = some .unset ∧ ∃ w : Value, A[i + 1]? = some (.val w) ∧ w.category = 2)) ∧ ((∃ w : Value, A[i + 1]? = some (.val w) ∧ w.category = 2) → L'[i + 2]? = some .unset) := by
  have hi0 : i < A.size := by omega
  have eB : (A.setIfInBounds i (.val v))[i + 1]? = A[i + 1]? := Array.getElem?_setIfInBounds_ne (by omega)
  have plain : (∀ w : Value, A[i + 1]? = some (.val w) → w.category ≠ 2) → storeSelf A i v = some ((A.setIfInBounds i (.val v)).setIfInBounds (i + 1) .second) := fun hq => by
    cases ho : A[i + 1]? with
    | none => rw [Array.getElem?_eq_none_iff] at ho; omega
    | some o => cases o with
      | unset => rw [ss_two hi0 hv ho]; exact setAt_eq (by simpa using hi)
      | second => rw [ss_two hi0 hv ho]; exact setAt_eq (by simpa using hi)
      | val w => have := hq w ho; rw [ss_two hi0 hv ho]; simp only [if_neg this]; exact setAt_eq (by simpa using hi)
  by_cases hw : ∃ w : Value, A[i + 1]? = some (.val w) ∧ w.category = 2
  · obtain ⟨w, h1, h2⟩ := hw
    have h3 := hn w h1 h2
    refine ⟨((A.setIfInBounds i (.val v)).setIfInBounds (i + 2) .unset).setIfInBounds (i + 1) .second, by rw [ss_two hi0 hv h1]; simp only [if_pos h2]; rw [setAt_eq (by simpa using h3)]; exact setAt_eq (by simpa using hi), by simp, ?_, by simp [hi], fun j a b => ?_, fun _ => ?_⟩
    · rw [Array.getElem?_setIfInBounds_ne (by omega), Array.getElem?_setIfInBounds_ne (by omega)]; simp [hi0]
    · rw [Array.getElem?_setIfInBounds_ne (by omega)]
      by_cases e : j = i + 2
      · subst e; exact Or.inr ⟨rfl, by simp [h3], w, h1, h2⟩
      · left; rw [Array.getElem?_setIfInBounds_ne (by omega), Array.getElem?_setIfInBounds_ne (by omega)]
    · rw [Array.getElem?_setIfInBounds_ne (by omega)]; simp [h3]
  · refine ⟨_, plain fun w h1 h2 => hw ⟨w, h1, h2⟩, by simp, ?_, by simp [hi], fun j a b => Or.inl ?_, fun q => absurd q hw⟩
    · rw [Array.getElem?_setIfInBounds_ne (by omega)]; simp [hi0]
    · rw [Array.getElem?_setIfInBounds_ne (by omega), Array.getElem?_setIfInBounds_ne (by omega)]
theorem store_two {L : Array Slot} {i : Nat} {v : Value} (hW : WFl L) (hi : i + 1 < L.size) (hv : v.category = 2) :
    ∃ L', storeLocals L i v = some L' ∧ L'.size = L.size ∧ WFl L' ∧ L'[i]? = some (.val v) ∧ L'[i + 1]? = some .second ∧ ∀ j, j ≠ i → j ≠ i + 1 → L'[j]? = L[j]? ∨ (j + 1 = i ∧ L[i]? = some .second) ∨ (j = i + 2 ∧ L[j]? = some .second) := by
  obtain ⟨A, a1, a2, a3, a4, a5⟩ := st_ph1 (v := v) hW hi
  have a6 : ∀ w : Value, A[i + 1]? = some (.val w) → w.category = 2 → L[i + 2]? = some .second := fun w h1 h2 => by
    rcases a4 with e | ⟨e, -⟩
    · rw [e] at h1; exact hW.2 _ _ h1 h2
    · rw [e] at h1; cases h1
  obtain ⟨L', b1, b2, b3, b4, b5, b6⟩ := st_ph2 (A := A) (i := i) (v := v) (by omega) hv (fun w h1 h2 => by have := (Array.getElem?_eq_some_iff.mp (a6 w h1 h2)).1; omega)
  have c : ∀ j, j ≠ i → j ≠ i + 1 → L'[j]? = L[j]? ∨ (j + 1 = i ∧ L[i]? = some .second ∧ L'[j]? = some .unset) ∨ (j = i + 2 ∧ L[j]? = some .second ∧ L'[j]? = some .unset) := fun j h1 h2 => by
    rcases b5 j h1 h2 with e | ⟨e1, e2, w, e3, e4⟩
    · rcases a3 j h1 h2 with r | ⟨r1, r2, r3⟩
      · exact Or.inl (e.trans r)
      · exact Or.inr (Or.inl ⟨r1, r2, e.trans r3⟩)
    · subst e1; exact Or.inr (Or.inr ⟨rfl, a6 w e3 e4, e2⟩)
  have cs : L[i]? = some .second → ∀ j, j + 1 = i → L'[j]? = some .unset := fun q j hj => by
    rcases b5 j (by omega) (by omega) with e | ⟨e1, -⟩
    · exact e.trans (a5 q j hj)
    · omega
  have c2 : L[i + 2]? = some .second → L'[i + 2]? = some .unset := fun q => by
    obtain ⟨j', w, z1, z2, z3⟩ := hW.1 _ q
    have : j' = i + 1 := by omega
    subst this
    rcases a4 with e | ⟨-, e⟩
    · exact b6 ⟨w, e.trans z2, z3⟩
    · rw [e] at z2; cases z2
  refine ⟨L', a1.trans b1, b2.trans a2, ⟨fun j hj => ?_, fun j w hj hw => ?_⟩, b3, b4, fun j h1 h2 => ?_⟩
  · by_cases e0 : j = i
    · subst e0; rw [b3] at hj; cases hj
    by_cases e1 : j = i + 1
    · exact ⟨i, v, e1, b3, hv⟩
    rcases c j e0 e1 with r | ⟨-, -, r⟩ | ⟨-, -, r⟩
    · rw [r] at hj
      obtain ⟨j', w, z1, z2, z3⟩ := hW.1 j hj
      refine ⟨j', w, z1, ?_, z3⟩
      have n0 : j' ≠ i := by omega
      by_cases n1 : j' = i + 1
      · have : j = i + 2 := by omega
        subst this
        rw [c2 hj] at r; rw [hj] at r; cases r
      rcases c j' n0 n1 with u | ⟨u, -, -⟩ | ⟨-, u, -⟩
      · exact u.trans z2
      · omega
      · rw [z2] at u; cases u
    · rw [r] at hj; cases hj
    · rw [r] at hj; cases hj
  · by_cases e0 : j = i
    · subst e0; exact b4
    by_cases e1 : j = i + 1
    · subst e1; rw [b4] at hj; cases hj
    rcases c j e0 e1 with r | ⟨-, -, r⟩ | ⟨-, -, r⟩
    · have hj' := hj
      rw [r] at hj
      have z := hW.2 j w hj hw
      by_cases n0 : j + 1 = i
      · subst n0; rw [cs z j rfl] at hj'; cases hj'
      by_cases n1 : j + 1 = i + 1
      · omega
      rcases c (j + 1) n0 n1 with u | ⟨u1, u2, -⟩ | ⟨u, -, -⟩
      · exact u.trans z
      · obtain ⟨j', w', y1, y2, y3⟩ := hW.1 i u2
        have : j' = j + 1 := by omega
        subst this; rw [z] at y2; cases y2
      · omega
    · rw [r] at hj; cases hj
    · rw [r] at hj; cases hj
  · rcases c j h1 h2 with r | ⟨r1, r2, -⟩ | ⟨r1, r2, -⟩
    · exact Or.inl r
    · exact Or.inr (Or.inl ⟨r1, r2⟩)
    · exact Or.inr (Or.inr ⟨r1, r2⟩)
theorem Fits.store2 {P : Pat} {L : Array Slot} {i : Nat} {v : Value} (h : Fits P L) (hi : i + 1 < L.size) (hv : v.category = 2) :
    ∃ L', storeLocals L i v = some L' ∧ L'.size = L.size ∧ Fits (ps2 P i v) L' := by
  obtain ⟨L', e1, e2, e3, e4, e4', e5⟩ := store_two h.2 hi hv
  refine ⟨L', e1, e2, fun j s hj => ?_, e3⟩
  rcases pget_pput _ _ _ _ _ hj with ⟨rfl, q⟩ | ⟨ne, q⟩
  · rw [e4']; exact q
  rcases pget_pput _ _ _ _ _ q with ⟨rfl, q'⟩ | ⟨ne', q'⟩
  · rw [e4]; exact q'
  obtain ⟨q1, q2⟩ := pk2_sub q'
  obtain ⟨q3, q4⟩ := pkp_sub q1
  have hL := h.1 j s q3
  rcases e5 j ne' ne with r | ⟨r1, r2⟩ | ⟨r1, r2⟩
  · rw [r]; exact hL
  · obtain ⟨j', w, z1, z2, z3⟩ := h.2.1 i r2
    have : j' = j := by omega
    subst this
    rw [hL] at z2; cases z2
    have := q4 r1 w rfl; omega
  · rw [hL] at r2; cases r2
    exact absurd rfl (q2 r1)
/- what a body does from a place on -/
def Runs (C : Ctx) (M : Bdy) (k n pc : Nat) (P : Pat) (S : List Value) (G : AH) (Q : Option Value → AH → Prop) : Prop :=
  Ok C → ∀ (p : Program) (e : Env) (s : State) (m : MethodId) (args : Array Value) (below : List Frame) (meth : Method) (c : Code) (T : State) (locs : List Loc) (L : Array Slot),
    p.tables.exec = Jvm.exec → c.code = M.2.1 → c.maxLocals = M.2.2.1 → meth.sig.returnType = M.2.2.2.1 → meth.name = M.1.name → s.vm.findClass M.1.cls = some m.cls → C.2.1.Warmed39 s.vm →
    Fits P L → L.size = M.2.2.1 → Stand p C.1 e M.2.2.2.2 s m args below meth c T locs k n → Rep C.2.1 C.2.2.1 T.heap G → Fr C.2.2.1 locs →
    ∃ (T' : State) (locs' : List Loc) (k' n' : Nat) (r : Option Value) (G' : AH), Stand p C.1 e M.2.2.2.2 s m args below meth c T' locs' k' n' ∧ k' ≤ M.2.2.2.2.cells ∧ n' ≤ M.2.2.2.2.slots ∧ Rep C.2.1 C.2.2.1 T'.heap G' ∧ Fr C.2.2.1 locs' ∧ Q r G' ∧
      (M.2.2.2.1 = none → r = none) ∧
      ∀ fs : List Frame, (∀ (f : JFrame) (acts : List Action), f.method = m → f.locked = none → f.entered = [] → (doReturn e (T'.setTop f) acts r).1 = T'.setFrames fs) → Steps p.tables e below (T.setTop (mkF m pc L S)) (T'.setFrames fs)
section Rules
variable {C : Ctx} {M : Bdy} {k n pc q : Nat} {P P' : Pat} {S S' : List Value} {G : AH} {Q : Option Value → AH → Prop}
/-- a step that leaves the heap alone -/
theorem Runs.pure {i : Instr} {len : Nat} (d : DAt M pc i len q) {pc' : Nat}
    (st : ∀ (p : Program) (e : Env) (s : State) (m : MethodId) (args : Array Value) (below : List Frame) (meth : Method) (c : Code) (T : State) (locs : List Loc) (L : Array Slot), Ok C → p.tables.exec = Jvm.exec → s.vm.findClass M.1.cls = some m.cls → C.2.1.Warmed39 s.vm → decode c.code pc = .ok (i, len) → Fits P L → L.size = M.2.2.1 → Rep C.2.1 C.2.2.1 T.heap G →
      Stand p C.1 e M.2.2.2.2 s m args below meth c T locs k n → ∃ L', Fits P' L' ∧ L'.size = M.2.2.1 ∧ ∀ t, Steps p.tables e below (T.setTop (mkF m pc' L' S')) t → Steps p.tables e below (T.setTop (mkF m pc L S)) t)
    (h : Runs C M k n pc' P' S' G Q) : Runs C M k n pc P S G Q := by
  intro hw p e s m args below meth c T locs L hx hby hml hret hnm hown hZ hP hsz X hR hF
  obtain ⟨L', f1, f2, f3⟩ := st p e s m args below meth c T locs L hw hx hown hZ (hb hby d.1) hP hsz hR X
  obtain ⟨T', locs', k', n', r, G', g1, g2, g3, g4, g5, g6, g7, g8⟩ := h hw p e s m args below meth c T locs L' hx hby hml hret hnm hown hZ f1 f2 X hR hF
  exact ⟨T', locs', k', n', r, G', g1, g2, g3, g4, g5, g6, g7, fun fs hr => f3 _ (g8 fs hr)⟩
/-- a step that keeps the locals and what the heap says -/
theorem Runs.stk {i : Instr} {len : Nat} (d : DAt M pc i len q)
    (st : ∀ (p : Program) (e : Env) (s : State) (m : MethodId) (args : Array Value) (below : List Frame) (meth : Method) (c : Code) (T : State) (locs : List Loc) (L : Array Slot), p.tables.exec = Jvm.exec → decode c.code pc = .ok (i, len) → Fits P L →
      Stand p C.1 e M.2.2.2.2 s m args below meth c T locs k n → ∀ t, Steps p.tables e below (T.setTop (mkF m (pc + len) L S')) t → Steps p.tables e below (T.setTop (mkF m pc L S)) t)
    (h : Runs C M k n q P S' G Q) : Runs C M k n pc P S G Q := by
  have hq := d.2
  subst hq
  exact Runs.pure d (fun p e s m args below meth c T locs L _ hx _ _ hd hP hsz _ X => ⟨L, hP, hsz, st p e s m args below meth c T locs L hx hd hP X⟩) h
theorem Runs.iloadN {j : Fin 4} {v : Int32} (d : DAt M pc (.iload_n j) 1 q) (hl : pget P j.val = vi v) (h : Runs C M k n q P (.int v :: S) G Q) : Runs C M k n pc P S G Q :=
  Runs.stk d (fun p e s m args below meth c T locs L hx hd hP X t r => XS.iloadN (g := mkF m pc L S) X.here hx rfl hd (hP.1 _ _ hl) r) h
theorem Runs.iload {j : Nat} {v : Int32} (d : DAt M pc (.iload j) 2 q) (hl : pget P j = vi v) (h : Runs C M k n q P (.int v :: S) G Q) : Runs C M k n pc P S G Q :=
  Runs.stk d (fun p e s m args below meth c T locs L hx hd hP X t r => XS.iload (g := mkF m pc L S) X.here hx rfl hd (hP.1 _ _ hl) r) h
theorem Runs.lloadN {j : Fin 4} {v : Int64} (d : DAt M pc (.lload_n j) 1 q) (hl : pget P j.val = vl v) (h : Runs C M k n q P (.long v :: S) G Q) : Runs C M k n pc P S G Q :=
  Runs.stk d (fun p e s m args below meth c T locs L hx hd hP X t r => XS.lloadN (g := mkF m pc L S) X.here hx rfl hd (hP.1 _ _ hl) r) h
theorem Runs.lload {j : Nat} {v : Int64} (d : DAt M pc (.lload j) 2 q) (hl : pget P j = vl v) (h : Runs C M k n q P (.long v :: S) G Q) : Runs C M k n pc P S G Q :=
  Runs.stk d (fun p e s m args below meth c T locs L hx hd hP X t r => XS.lload (g := mkF m pc L S) X.here hx rfl hd (hP.1 _ _ hl) r) h
theorem Runs.aloadN {j : Fin 4} {v : Nat} (d : DAt M pc (.aload_n j) 1 q) (hl : pget P j.val = vr v) (h : Runs C M k n q P (.ref v :: S) G Q) : Runs C M k n pc P S G Q :=
  Runs.stk d (fun p e s m args below meth c T locs L hx hd hP X t r => XS.aloadN (g := mkF m pc L S) X.here hx rfl hd (hP.1 _ _ hl) rfl r) h
theorem Runs.aload {j : Nat} {v : Nat} (d : DAt M pc (.aload j) 2 q) (hl : pget P j = vr v) (h : Runs C M k n q P (.ref v :: S) G Q) : Runs C M k n pc P S G Q :=
  Runs.stk d (fun p e s m args below meth c T locs L hx hd hP X t r => XS.aload (g := mkF m pc L S) X.here hx rfl hd (hP.1 _ _ hl) rfl r) h
theorem Runs.iconst {i : Int} {v : Int32} (d : DAt M pc (.iconst i) 1 q) (hv : Int32.ofInt i = v) (h : Runs C M k n q P (.int v :: S) G Q) : Runs C M k n pc P S G Q :=
  Runs.stk d (fun p e s m args below meth c T locs L hx hd hP X t r => XS.iconst (g := mkF m pc L S) X.here hx rfl hd (by rw [hv]; exact r)) h
theorem Runs.bipush {i : Int} {v : Int32} (d : DAt M pc (.bipush i) 2 q) (hv : (Int8.ofInt i).toInt32 = v) (h : Runs C M k n q P (.int v :: S) G Q) : Runs C M k n pc P S G Q :=
  Runs.stk d (fun p e s m args below meth c T locs L hx hd hP X t r => XS.bipush (g := mkF m pc L S) X.here hx rfl hd (by rw [hv]; exact r)) h
theorem Runs.sipush {i : Int} {v : Int32} (d : DAt M pc (.sipush i) 3 q) (hv : (Int16.ofInt i).toInt32 = v) (h : Runs C M k n q P (.int v :: S) G Q) : Runs C M k n pc P S G Q :=
  Runs.stk d (fun p e s m args below meth c T locs L hx hd hP X t r => XS.sipush (g := mkF m pc L S) X.here hx rfl hd (by rw [hv]; exact r)) h
theorem Runs.lconst {i : Fin 2} {v : Int64} (d : DAt M pc (.lconst i) 1 q) (hv : Int64.ofNat i = v) (h : Runs C M k n q P (.long v :: S) G Q) : Runs C M k n pc P S G Q :=
  Runs.stk d (fun p e s m args below meth c T locs L hx hd hP X t r => Jvm.Free.XT.lconstV (g := mkF m pc L S) X.here hx rfl v hd hv r) h
theorem Runs.ldc {i : Nat} {v : Int32} (d : DAt M pc (.ldc i) 2 q) (w : Jvm.Cond.constant M.1.cls i v ∈ tables_1) (h : Runs C M k n q P (.int v :: S) G Q) : Runs C M k n pc P S G Q := by
  have hq := d.2
  subst hq
  exact Runs.pure d (fun p e s m args below meth c T locs L hw hx hown hZ hd hP hsz _ X => ⟨L, hP, hsz, fun t r => X.ldcInt hx hown (mvT hZ (hw _ w)) (g := mkF m pc L S) rfl hd t r⟩) h
theorem Runs.ldc2 {i : Nat} {v : Int64} (d : DAt M pc (.ldc2_w i) 3 q) (w : Jvm.Cond.constantLong M.1.cls i v ∈ tables_1) (h : Runs C M k n q P (.long v :: S) G Q) : Runs C M k n pc P S G Q := by
  have hq := d.2
  subst hq
  exact Runs.pure d (fun p e s m args below meth c T locs L hw hx hown hZ hd hP hsz _ X => ⟨L, hP, hsz, fun t r => X.ldc2Long hx hown (mvT hZ (hw _ w)) (g := mkF m pc L S) rfl hd t r⟩) h
theorem Runs.iadd {x y : Int32} (d : DAt M pc .iadd 1 q) (h : Runs C M k n q P (.int (x + y) :: S) G Q) : Runs C M k n pc P (.int y :: .int x :: S) G Q :=
  Runs.stk d (fun p e s m args below meth c T locs L hx hd hP X t r => XS.iadd (g := mkF m pc L (.int y :: .int x :: S)) X.here hx rfl hd rfl r) h
theorem Runs.isub {x y : Int32} (d : DAt M pc .isub 1 q) (h : Runs C M k n q P (.int (x - y) :: S) G Q) : Runs C M k n pc P (.int y :: .int x :: S) G Q :=
  Runs.stk d (fun p e s m args below meth c T locs L hx hd hP X t r => XS.isub (g := mkF m pc L (.int y :: .int x :: S)) X.here hx rfl hd rfl r) h
theorem Runs.imul {x y : Int32} (d : DAt M pc .imul 1 q) (h : Runs C M k n q P (.int (x * y) :: S) G Q) : Runs C M k n pc P (.int y :: .int x :: S) G Q :=
  Runs.stk d (fun p e s m args below meth c T locs L hx hd hP X t r => XS.imul (g := mkF m pc L (.int y :: .int x :: S)) X.here hx rfl hd rfl r) h
theorem Runs.iand {x y : Int32} (d : DAt M pc .iand 1 q) (h : Runs C M k n q P (.int (x &&& y) :: S) G Q) : Runs C M k n pc P (.int y :: .int x :: S) G Q :=
  Runs.stk d (fun p e s m args below meth c T locs L hx hd hP X t r => XS.iand (g := mkF m pc L (.int y :: .int x :: S)) X.here hx rfl hd rfl r) h
theorem Runs.ior {x y : Int32} (d : DAt M pc .ior 1 q) (h : Runs C M k n q P (.int (x ||| y) :: S) G Q) : Runs C M k n pc P (.int y :: .int x :: S) G Q :=
  Runs.stk d (fun p e s m args below meth c T locs L hx hd hP X t r => XS.ior (g := mkF m pc L (.int y :: .int x :: S)) X.here hx rfl hd rfl r) h
theorem Runs.ixor {x y : Int32} (d : DAt M pc .ixor 1 q) (h : Runs C M k n q P (.int (x ^^^ y) :: S) G Q) : Runs C M k n pc P (.int y :: .int x :: S) G Q :=
  Runs.stk d (fun p e s m args below meth c T locs L hx hd hP X t r => XS.ixor (g := mkF m pc L (.int y :: .int x :: S)) X.here hx rfl hd rfl r) h
theorem Runs.ladd {x y : Int64} (d : DAt M pc .ladd 1 q) (h : Runs C M k n q P (.long (x + y) :: S) G Q) : Runs C M k n pc P (.long y :: .long x :: S) G Q :=
  Runs.stk d (fun p e s m args below meth c T locs L hx hd hP X t r => XS.ladd (g := mkF m pc L (.long y :: .long x :: S)) X.here hx rfl hd rfl r) h
theorem Runs.lsub {x y : Int64} (d : DAt M pc .lsub 1 q) (h : Runs C M k n q P (.long (x - y) :: S) G Q) : Runs C M k n pc P (.long y :: .long x :: S) G Q :=
  Runs.stk d (fun p e s m args below meth c T locs L hx hd hP X t r => XS.lsub (g := mkF m pc L (.long y :: .long x :: S)) X.here hx rfl hd rfl r) h
theorem Runs.lmul {x y : Int64} (d : DAt M pc .lmul 1 q) (h : Runs C M k n q P (.long (x * y) :: S) G Q) : Runs C M k n pc P (.long y :: .long x :: S) G Q :=
  Runs.stk d (fun p e s m args below meth c T locs L hx hd hP X t r => XS.lmul (g := mkF m pc L (.long y :: .long x :: S)) X.here hx rfl hd rfl r) h
theorem Runs.land {x y : Int64} (d : DAt M pc .land 1 q) (h : Runs C M k n q P (.long (x &&& y) :: S) G Q) : Runs C M k n pc P (.long y :: .long x :: S) G Q :=
  Runs.stk d (fun p e s m args below meth c T locs L hx hd hP X t r => XS.land (g := mkF m pc L (.long y :: .long x :: S)) X.here hx rfl hd rfl r) h
theorem Runs.lor {x y : Int64} (d : DAt M pc .lor 1 q) (h : Runs C M k n q P (.long (x ||| y) :: S) G Q) : Runs C M k n pc P (.long y :: .long x :: S) G Q :=
  Runs.stk d (fun p e s m args below meth c T locs L hx hd hP X t r => XS.lor (g := mkF m pc L (.long y :: .long x :: S)) X.here hx rfl hd rfl r) h
theorem Runs.lxor {x y : Int64} (d : DAt M pc .lxor 1 q) (h : Runs C M k n q P (.long (x ^^^ y) :: S) G Q) : Runs C M k n pc P (.long y :: .long x :: S) G Q :=
  Runs.stk d (fun p e s m args below meth c T locs L hx hd hP X t r => XS.lxor (g := mkF m pc L (.long y :: .long x :: S)) X.here hx rfl hd rfl r) h
theorem Runs.ishl {x : Int32} {y : Int32} (d : DAt M pc .ishl 1 q) (h : Runs C M k n q P (.int (x <<< (y &&& 31)) :: S) G Q) : Runs C M k n pc P (.int y :: .int x :: S) G Q :=
  Runs.stk d (fun p e s m args below meth c T locs L hx hd hP X t r => XS.ishl (g := mkF m pc L (.int y :: .int x :: S)) X.here hx rfl hd rfl r) h
theorem Runs.ishr {x : Int32} {y : Int32} (d : DAt M pc .ishr 1 q) (h : Runs C M k n q P (.int (x >>> (y &&& 31)) :: S) G Q) : Runs C M k n pc P (.int y :: .int x :: S) G Q :=
  Runs.stk d (fun p e s m args below meth c T locs L hx hd hP X t r => XS.ishr (g := mkF m pc L (.int y :: .int x :: S)) X.here hx rfl hd rfl r) h
theorem Runs.iushr {x : Int32} {y : Int32} (d : DAt M pc .iushr 1 q) (h : Runs C M k n q P (.int ((x.toUInt32 >>> (y &&& 31).toUInt32).toInt32) :: S) G Q) : Runs C M k n pc P (.int y :: .int x :: S) G Q :=
  Runs.stk d (fun p e s m args below meth c T locs L hx hd hP X t r => XS.iushr (g := mkF m pc L (.int y :: .int x :: S)) X.here hx rfl hd rfl r) h
theorem Runs.lshl {x : Int64} {y : Int32} (d : DAt M pc .lshl 1 q) (h : Runs C M k n q P (.long (x <<< (y &&& 0x3f).toInt64) :: S) G Q) : Runs C M k n pc P (.int y :: .long x :: S) G Q :=
  Runs.stk d (fun p e s m args below meth c T locs L hx hd hP X t r => XS.lshl (g := mkF m pc L (.int y :: .long x :: S)) X.here hx rfl hd rfl r) h
theorem Runs.lshr {x : Int64} {y : Int32} (d : DAt M pc .lshr 1 q) (h : Runs C M k n q P (.long (x >>> (y &&& 0x3f).toInt64) :: S) G Q) : Runs C M k n pc P (.int y :: .long x :: S) G Q :=
  Runs.stk d (fun p e s m args below meth c T locs L hx hd hP X t r => XS.lshr (g := mkF m pc L (.int y :: .long x :: S)) X.here hx rfl hd rfl r) h
theorem Runs.lushr {x : Int64} {y : Int32} (d : DAt M pc .lushr 1 q) (h : Runs C M k n q P (.long ((x.toUInt64 >>> (y &&& 0x3f).toInt64.toUInt64).toInt64) :: S) G Q) : Runs C M k n pc P (.int y :: .long x :: S) G Q :=
  Runs.stk d (fun p e s m args below meth c T locs L hx hd hP X t r => XS.lushr (g := mkF m pc L (.int y :: .long x :: S)) X.here hx rfl hd rfl r) h
theorem Runs.ineg {x : Int32} (d : DAt M pc .ineg 1 q) (h : Runs C M k n q P (.int (-x) :: S) G Q) : Runs C M k n pc P (.int x :: S) G Q :=
  Runs.stk d (fun p e s m args below meth c T locs L hx hd hP X t r => XS.ineg (g := mkF m pc L (.int x :: S)) X.here hx rfl hd rfl r) h
theorem Runs.lneg {x : Int64} (d : DAt M pc .lneg 1 q) (h : Runs C M k n q P (.long (-x) :: S) G Q) : Runs C M k n pc P (.long x :: S) G Q :=
  Runs.stk d (fun p e s m args below meth c T locs L hx hd hP X t r => XS.lneg (g := mkF m pc L (.long x :: S)) X.here hx rfl hd rfl r) h
theorem Runs.i2l {x : Int32} (d : DAt M pc .i2l 1 q) (h : Runs C M k n q P (.long x.toInt64 :: S) G Q) : Runs C M k n pc P (.int x :: S) G Q :=
  Runs.stk d (fun p e s m args below meth c T locs L hx hd hP X t r => XS.i2l (g := mkF m pc L (.int x :: S)) X.here hx rfl hd rfl r) h
theorem Runs.l2i {x : Int64} (d : DAt M pc .l2i 1 q) (h : Runs C M k n q P (.int x.toInt32 :: S) G Q) : Runs C M k n pc P (.long x :: S) G Q :=
  Runs.stk d (fun p e s m args below meth c T locs L hx hd hP X t r => XS.l2i (g := mkF m pc L (.long x :: S)) X.here hx rfl hd rfl r) h
theorem Runs.lcmp {x y : Int64} (d : DAt M pc .lcmp 1 q) (h : Runs C M k n q P (.int (lcmpW x y) :: S) G Q) : Runs C M k n pc P (.long y :: .long x :: S) G Q :=
  Runs.stk d (fun p e s m args below meth c T locs L hx hd hP X t r => XS.lcmp (g := mkF m pc L (.long y :: .long x :: S)) X.here hx rfl hd rfl r) h
theorem Runs.idiv {x y : Int32} (d : DAt M pc .idiv 1 q) (hy : y ≠ 0) (h : Runs C M k n q P (.int (x / y) :: S) G Q) : Runs C M k n pc P (.int y :: .int x :: S) G Q :=
  Runs.stk d (fun p e s m args below meth c T locs L hx hd hP X t r => XS.idiv (g := mkF m pc L (.int y :: .int x :: S)) X.here hx rfl hd rfl hy r) h
theorem Runs.irem {x y : Int32} (d : DAt M pc .irem 1 q) (hy : y ≠ 0) (h : Runs C M k n q P (.int (x % y) :: S) G Q) : Runs C M k n pc P (.int y :: .int x :: S) G Q :=
  Runs.stk d (fun p e s m args below meth c T locs L hx hd hP X t r => iremM (g := mkF m pc L (.int y :: .int x :: S)) X hx rfl hd rfl hy r) h
theorem Runs.dup {x : Value} (d : DAt M pc .dup 1 q) (hc : x.category = 1) (h : Runs C M k n q P (x :: x :: S) G Q) : Runs C M k n pc P (x :: S) G Q :=
  Runs.stk d (fun p e s m args below meth c T locs L hx hd hP X t r => XS.dup (g := mkF m pc L (x :: S)) X.here hx rfl hd rfl hc r) h
theorem Runs.dup2 {x y : Value} (d : DAt M pc .dup2 1 q) (hc : x.category = 1) (hc' : y.category = 1) (h : Runs C M k n q P (x :: y :: x :: y :: S) G Q) : Runs C M k n pc P (x :: y :: S) G Q :=
  Runs.stk d (fun p e s m args below meth c T locs L hx hd hP X t r => Jvm.Free.XT.dup2 (g := mkF m pc L (x :: y :: S)) X.here hx rfl hd rfl hc hc' r) h
theorem Runs.pop {x : Value} (d : DAt M pc .pop 1 q) (hc : x.category = 1) (h : Runs C M k n q P S G Q) : Runs C M k n pc P (x :: S) G Q :=
  Runs.stk d (fun p e s m args below meth c T locs L hx hd hP X t r => XS.pop (g := mkF m pc L (x :: S)) X.here hx rfl hd rfl hc r) h
theorem Runs.goto {o : Int} {pc' : Nat} (d : DAt M pc (.goto o) 3 q) (ho : 0 ≤ (pc : Int) + o ∧ ((pc : Int) + o).toNat = pc') (h : Runs C M k n pc' P S G Q) : Runs C M k n pc P S G Q :=
  Runs.pure d (fun p e s m args below meth c T locs L hw hx hown hZ hd hP hsz _ X => ⟨L, hP, hsz, fun t r => XS.goto (g := mkF m pc L S) X.here hx rfl (pc0 := pc) rfl hd ho.1 ho.2 r⟩) h
theorem Runs.ifY {cd : ClassFile.Cond} {x : Int32} {o : Int} {pc' : Nat} (d : DAt M pc (.ifCond cd o) 3 q) (hc : if_icmp.holds cd x 0 = true) (ho : 0 ≤ (pc : Int) + o ∧ ((pc : Int) + o).toNat = pc') (h : Runs C M k n pc' P S G Q) : Runs C M k n pc P (.int x :: S) G Q :=
  Runs.pure d (fun p e s m args below meth c T locs L hw hx hown hZ hd hP hsz _ X => ⟨L, hP, hsz, fun t r => XS.ifYes (g := mkF m pc L (.int x :: S)) X.here hx rfl (pc0 := pc) rfl hd rfl ((if0 _ _).trans hc) ho.1 ho.2 r⟩) h
theorem Runs.ifN {cd : ClassFile.Cond} {x : Int32} {o : Int} (d : DAt M pc (.ifCond cd o) 3 q) (hc : if_icmp.holds cd x 0 = false) (h : Runs C M k n q P S G Q) : Runs C M k n pc P (.int x :: S) G Q :=
  Runs.stk d (fun p e s m args below meth c T locs L hx hd hP X t r => XS.ifNo (g := mkF m pc L (.int x :: S)) X.here hx rfl hd rfl ((if0 _ _).trans hc) r) h
theorem Runs.icY {cd : ClassFile.Cond} {x y : Int32} {o : Int} {pc' : Nat} (d : DAt M pc (.if_icmp cd o) 3 q) (hc : if_icmp.holds cd x y = true) (ho : 0 ≤ (pc : Int) + o ∧ ((pc : Int) + o).toNat = pc') (h : Runs C M k n pc' P S G Q) : Runs C M k n pc P (.int y :: .int x :: S) G Q :=
  Runs.pure d (fun p e s m args below meth c T locs L hw hx hown hZ hd hP hsz _ X => ⟨L, hP, hsz, fun t r => XS.icmpYes (g := mkF m pc L (.int y :: .int x :: S)) X.here hx rfl (pc0 := pc) rfl hd rfl hc ho.1 ho.2 r⟩) h
theorem Runs.icN {cd : ClassFile.Cond} {x y : Int32} {o : Int} (d : DAt M pc (.if_icmp cd o) 3 q) (hc : if_icmp.holds cd x y = false) (h : Runs C M k n q P S G Q) : Runs C M k n pc P (.int y :: .int x :: S) G Q :=
  Runs.stk d (fun p e s m args below meth c T locs L hx hd hP X t r => XS.icmpNo (g := mkF m pc L (.int y :: .int x :: S)) X.here hx rfl hd rfl hc r) h
theorem Runs.tswI {dflt low high : Int} {offs : Array Int} {len : Nat} {o : Int} {pc' : Nat} {i : Int32} (d : DAt M pc (.tableswitch dflt low high offs) len q) (hin : ¬ (i.toInt < low ∨ i.toInt > high)) (hoff : offs[(i.toInt - low).toNat]? = some o) (ho : 0 ≤ (pc : Int) + o ∧ ((pc : Int) + o).toNat = pc') (h : Runs C M k n pc' P S G Q) : Runs C M k n pc P (.int i :: S) G Q :=
  Runs.pure d (fun p e s m args below meth c T locs L hw hx hown hZ hd hP hsz _ X => ⟨L, hP, hsz, fun t r => XS.tswIn (g := mkF m pc L (.int i :: S)) X.here hx rfl (pc0 := pc) rfl hd rfl hin hoff ho.1 ho.2 r⟩) h
theorem Runs.tswO {dflt low high : Int} {offs : Array Int} {len : Nat} {pc' : Nat} {i : Int32} (d : DAt M pc (.tableswitch dflt low high offs) len q) (hout : i.toInt < low ∨ i.toInt > high) (ho : 0 ≤ (pc : Int) + dflt ∧ ((pc : Int) + dflt).toNat = pc') (h : Runs C M k n pc' P S G Q) : Runs C M k n pc P (.int i :: S) G Q :=
  Runs.pure d (fun p e s m args below meth c T locs L hw hx hown hZ hd hP hsz _ X => ⟨L, hP, hsz, fun t r => XS.tswOut (g := mkF m pc L (.int i :: S)) X.here hx rfl (pc0 := pc) rfl hd rfl hout ho.1 ho.2 r⟩) h
theorem Runs.istoreN {j : Fin 4} {x : Int32} (d : DAt M pc (.istore_n j) 1 q) (hi : j.val < M.2.2.1) (hP' : ps1 P j.val (.int x) = P') (h : Runs C M k n q P' S G Q) : Runs C M k n pc P (.int x :: S) G Q := by
  have hq := d.2
  subst hq hP'
  refine Runs.pure d (fun p e s m args below meth c T locs L hw hx hown hZ hd hP hsz _ X => ?_) h
  obtain ⟨L', e1, e2, e3⟩ := hP.store1 (i := j.val) (v := .int x) (by omega) rfl
  exact ⟨L', e3, e2.trans hsz, fun t r => XS.istoreN (g := mkF m pc L (.int x :: S)) X.here hx rfl hd rfl e1 r⟩
theorem Runs.istore {j : Nat} {x : Int32} (d : DAt M pc (.istore j) 2 q) (hi : j < M.2.2.1) (hP' : ps1 P j (.int x) = P') (h : Runs C M k n q P' S G Q) : Runs C M k n pc P (.int x :: S) G Q := by
  have hq := d.2
  subst hq hP'
  refine Runs.pure d (fun p e s m args below meth c T locs L hw hx hown hZ hd hP hsz _ X => ?_) h
  obtain ⟨L', e1, e2, e3⟩ := hP.store1 (i := j) (v := .int x) (by omega) rfl
  exact ⟨L', e3, e2.trans hsz, fun t r => XS.istore (g := mkF m pc L (.int x :: S)) X.here hx rfl hd rfl e1 r⟩
theorem Runs.astoreN {j : Fin 4} {x : Nat} (d : DAt M pc (.astore_n j) 1 q) (hi : j.val < M.2.2.1) (hP' : ps1 P j.val (.ref x) = P') (h : Runs C M k n q P' S G Q) : Runs C M k n pc P (.ref x :: S) G Q := by
  have hq := d.2
  subst hq hP'
  refine Runs.pure d (fun p e s m args below meth c T locs L hw hx hown hZ hd hP hsz _ X => ?_) h
  obtain ⟨L', e1, e2, e3⟩ := hP.store1 (i := j.val) (v := .ref x) (by omega) rfl
  exact ⟨L', e3, e2.trans hsz, fun t r => XS.astoreN (g := mkF m pc L (.ref x :: S)) X.here hx rfl hd rfl rfl e1 r⟩
theorem Runs.astore {j : Nat} {x : Nat} (d : DAt M pc (.astore j) 2 q) (hi : j < M.2.2.1) (hP' : ps1 P j (.ref x) = P') (h : Runs C M k n q P' S G Q) : Runs C M k n pc P (.ref x :: S) G Q := by
  have hq := d.2
  subst hq hP'
  refine Runs.pure d (fun p e s m args below meth c T locs L hw hx hown hZ hd hP hsz _ X => ?_) h
  obtain ⟨L', e1, e2, e3⟩ := hP.store1 (i := j) (v := .ref x) (by omega) rfl
  exact ⟨L', e3, e2.trans hsz, fun t r => XS.astore (g := mkF m pc L (.ref x :: S)) X.here hx rfl hd rfl rfl e1 r⟩
theorem Runs.lstoreN {j : Fin 4} {x : Int64} (d : DAt M pc (.lstore_n j) 1 q) (hi : j.val + 1 < M.2.2.1) (hP' : ps2 P j.val (.long x) = P') (h : Runs C M k n q P' S G Q) : Runs C M k n pc P (.long x :: S) G Q := by
  have hq := d.2
  subst hq hP'
  refine Runs.pure d (fun p e s m args below meth c T locs L hw hx hown hZ hd hP hsz _ X => ?_) h
  obtain ⟨L', e1, e2, e3⟩ := hP.store2 (i := j.val) (v := .long x) (by omega) rfl
  exact ⟨L', e3, e2.trans hsz, fun t r => XS.lstoreN (g := mkF m pc L (.long x :: S)) X.here hx rfl hd rfl e1 r⟩
theorem Runs.lstore {j : Nat} {x : Int64} (d : DAt M pc (.lstore j) 2 q) (hi : j + 1 < M.2.2.1) (hP' : ps2 P j (.long x) = P') (h : Runs C M k n q P' S G Q) : Runs C M k n pc P (.long x :: S) G Q := by
  have hq := d.2
  subst hq hP'
  refine Runs.pure d (fun p e s m args below meth c T locs L hw hx hown hZ hd hP hsz _ X => ?_) h
  obtain ⟨L', e1, e2, e3⟩ := hP.store2 (i := j) (v := .long x) (by omega) rfl
  exact ⟨L', e3, e2.trans hsz, fun t r => XS.lstore (g := mkF m pc L (.long x :: S)) X.here hx rfl hd rfl e1 r⟩
theorem Runs.iinc {j : Nat} {cst : Int} {x v : Int32} (d : DAt M pc (.iinc j cst) 3 q) (hv : Int32.ofInt cst = v) (hl : pget P j = vi x) (hi : j < M.2.2.1) (hP' : ps1 P j (.int (x + v)) = P') (h : Runs C M k n q P' S G Q) : Runs C M k n pc P S G Q := by
  have hq := d.2
  subst hq hP' hv
  refine Runs.pure d (fun p e s m args below meth c T locs L hw hx hown hZ hd hP hsz _ X => ?_) h
  obtain ⟨L', e1, e2, e3⟩ := hP.store1 (i := j) (v := .int (x + Int32.ofInt cst)) (by omega) rfl
  exact ⟨L', e3, e2.trans hsz, fun t r => XS.iinc (g := mkF m pc L S) X.here hx rfl hd (hP.1 _ _ hl) e1 r⟩
/-- less is known of the locals -/
def psub : Pat → Pat → Prop
  | [], _ => True
  | none :: l, _ :: l' => psub l l'
  | some s :: l, y :: l' => y = some s ∧ psub l l'
  | none :: l, [] => psub l []
  | some _ :: _, [] => False
theorem psub_get : ∀ (P P' : Pat), psub P P' → ∀ i s, pget P i = some s → pget P' i = some s
  | [], _, _, i, s, h => by simp [pget] at h
  | none :: l, _ :: l', H, 0, s, h => by simp [pget] at h
  | none :: l, _ :: l', H, i + 1, s, h => psub_get l l' H i s h
  | some x :: l, y :: l', H, 0, s, h => by rw [show y = some x from H.1]; exact h
  | some x :: l, y :: l', H, i + 1, s, h => psub_get l l' H.2 i s h
  | none :: l, [], H, 0, s, h => by simp [pget] at h
  | none :: l, [], H, i + 1, s, h => by have := psub_get l [] H i s h; simp [pget] at this
  | some _ :: _, [], H, _, _, _ => H.elim
theorem Runs.weak (hP : psub P' P) (h : Runs C M k n pc P' S G Q) : Runs C M k n pc P S G Q := by
  intro hw p e s m args below meth c T locs L hx hby hml hret hnm hown hZ hf
  exact h hw p e s m args below meth c T locs L hx hby hml hret hnm hown hZ ⟨fun i s hi => hf.1 i s (psub_get _ _ hP i s hi), hf.2⟩
theorem Runs.swap {top : Nat} {x y : Nat × Nat × Rec} {H : List (Nat × Nat × Rec)} (h : Runs C M k n pc P S (top, y :: x :: H) Q) : Runs C M k n pc P S (top, x :: y :: H) Q := by
  intro hw p e s m args below meth c T locs L hx hby hml hret hnm hown hZ hf hsz X hR hF
  exact h hw p e s m args below meth c T locs L hx hby hml hret hnm hown hZ hf hsz X hR.swap hF
end Rules
/- the steps that touch the heap -/
section Made
variable {p : Program} {l : Launch} {e : Env} {R : Room} {s : State} {m : MethodId} {args : Array Value} {below : List Frame} {meth : Method} {c : Code} {T : State} {locs : List Loc} {cells slots : Nat} {Z : State} {a0 : Array Value}
theorem ext_push (h : Heap) (x : Cell) : Ext h (h.push x) := ⟨by simp, fun a c q => by rw [Array.getElem?_push_lt (Array.getElem?_eq_some_iff.mp q).1]; exact (Array.getElem?_eq_getElem _).symm.trans q⟩
/-- 'new', with the heap's size behind it -/
theorem new1 (X : Stand p l e R s m args below meth c T locs cells slots) (hx : p.tables.exec = Jvm.exec) (hZ : Z.Warmed39 s.vm) {own C : String} {index n : Nat} (hown : s.vm.findClass own = some m.cls) (w : (Jvm.Cond.classLink own index C).before a0 Z = true) (wi : (Jvm.Cond.instantiable C n).before a0 Z = true) (wz : (Jvm.Cond.initialized C).before a0 Z = true)
    {g : JFrame} (hg : g.method = m) (hd : decode c.code g.pc = .ok (.new index, 3)) (hc : cells + 1 ≤ R.cells) (hl : slots + n ≤ R.slots) :
    ∃ T', Stand p l e R s m args below meth c T' locs (cells + 1) (slots + n) ∧ T'.heap.size = T.heap.size + 1 ∧ Ext T.heap T'.heap ∧ Exa Z T'.heap T.heap.size C ∧ (∀ {O nm d : String} {ty : FieldType}, Laid Z a0 C O nm d → parseFieldDescriptor d = some ty → Fld Z T'.heap T.heap.size O nm d (defaultValue ty)) ∧
      ∀ target, Steps p.tables e below (T'.setTop { g with pc := g.pc + 3, stack := .ref T.heap.size :: g.stack }) target → Steps p.tables e below (T.setTop g) target := by
  obtain ⟨vm', cC, kC, h1, h2, h3, h4, X', st⟩ := X.newCold hx hown (mv hZ w) (mv hZ wi) (mv hZ wz) hg hd hc hl
  rw [hZ.alike.findClass] at h1
  obtain ⟨kZ, z1, -⟩ := Vm.findClass_spec h1
  obtain ⟨k', z2, z3⟩ := hZ.alike.2.2 _ _ z1
  have ek : kC.instanceTypes = kZ.instanceTypes := by rw [Option.some.inj (h2.symm.trans z2), z3]
  obtain ⟨cell, hcell⟩ : ∃ cell : Cell, cell = { cls := cC, slots := kC.instanceTypes.map defaultValue, vm := .none } := ⟨_, rfl⟩
  rw [← hcell] at X' st
  have hp : ((T.setVm vm').pushCell cell).heap = T.heap.push cell := rfl
  have at' : (T.heap.push cell)[T.heap.size]? = some cell := by simp
  refine ⟨_, X', by rw [hp]; simp, by rw [hp]; exact ext_push _ _, ?_, fun {O nm d ty} L ht => ?_, st⟩
  · rw [hp]; exact ⟨cell, kZ, at', by rw [hcell]; exact h1, by rw [hcell]; exact z1, by rw [hcell]; rfl, fun _ => by rw [hcell]; simp [ek]⟩
  · rw [hp]
    obtain ⟨c1, k1, cf, kf, i, f, a1, a2, a3, a4, a5, a6, -⟩ := L.spec
    cases h1.symm.trans a1
    cases z1.symm.trans a2
    refine ⟨cell, cf, kf, i, f, at', a3, a4, by rw [hcell]; simp, by rw [hcell]; rfl, by rw [hcell]; exact a5, ?_⟩
    rw [hcell]; simp [ek, a6, (State.fieldFound?_type a3 ht).2]
theorem newArr1 (X : Stand p l e R s m args below meth c T locs cells slots) (hx : p.tables.exec = Jvm.exec) (hZ : Z.Warmed39 s.vm) {aty : ArrayType} (w : (Jvm.Cond.arrayClass (newarray.typeOf aty)).before a0 Z = true) {g : JFrame} (hg : g.method = m) (hd : decode c.code g.pc = .ok (.newarray aty, 2)) {n : Int32} {rest : List Value} (hs : g.stack = .int n :: rest)
    (hn : ¬ n < 0) (hb : n.toNatClampNeg * 8 ≤ 536870912) (hc : cells + 1 ≤ R.cells) (hl : slots + n.toNatClampNeg ≤ R.slots) :
    ∃ T' cA, Stand p l e R s m args below meth c T' locs (cells + 1) (slots + n.toNatClampNeg) ∧ T'.heap.size = T.heap.size + 1 ∧ Ext T.heap T'.heap ∧ Arr Z T'.heap T.heap.size (newA cA (newarray.typeOf aty) n) (newarray.typeOf aty) ∧
      ∀ target, Steps p.tables e below (T'.setTop { g with pc := g.pc + 2, stack := .ref T.heap.size :: rest }) target → Steps p.tables e below (T.setTop g) target := by
  have hcb : componentBytes (newarray.typeOf aty) ≤ 8 := by cases aty <;> decide
  obtain ⟨cA, kA, comp, h1, h2, h3, X', st⟩ := X.newarrayPrim hx (mvA hZ w) hg hd hs hn (Nat.le_trans (Nat.mul_le_mul_left _ hcb) hb) hc hl
  rw [hZ.alike.findClass] at h1
  obtain ⟨kZ, z1, -⟩ := Vm.findClass_spec h1
  obtain ⟨k', z2, z3⟩ := hZ.alike.2.2 _ _ z1
  have ek : kA.kind = kZ.kind := by rw [Option.some.inj (h2.symm.trans z2), z3]
  have hp : (T.pushCell (newA cA (newarray.typeOf aty) n)).heap = T.heap.push (newA cA (newarray.typeOf aty) n) := rfl
  refine ⟨T.pushCell (newA cA (newarray.typeOf aty) n), cA, X', by rw [hp]; simp, by rw [hp]; exact ext_push _ _, ?_, st⟩
  rw [hp]
  exact ⟨by simp, ⟨by simp [newA], kZ, z1, comp, by rw [← ek]; exact h3⟩, by simp [newA]⟩
end Made
section Heap
variable {C : Ctx} {M : Bdy} {k n pc q : Nat} {P P' : Pat} {S S' : List Value} {G : AH} {Q : Option Value → AH → Prop} {top : Nat} {a : Nat} {qq j idx : Nat} {ob : Rec} {H : List (Nat × Nat × Rec)} {nm ds : String}
theorem Runs.getI (d : DAt M pc (.getfield idx) 3 q) (w : Jvm.Cond.fieldLink M.1.cls idx K.1 nm ds ∈ tables_1) (hk : K.2.1[j]? = some (nm, ds)) (h : Runs C M k n q P (.int (gI ob j) :: S) (top, (a, qq, ob) :: H) Q) : Runs C M k n pc P (.ref a :: S) (top, (a, qq, ob) :: H) Q := by
  intro hw p e s m args below meth c T locs L hx hby hml hret hnm hown hZ hf hsz X hR hF
  have hq := d.2
  subst hq
  obtain ⟨T1, X1, e1, st1⟩ := getF X hx hZ hown (host := "") (Or.inl (hw _ w)) Via.refl rfl (hR.objs.2.2.2.1 j _ hk) (g := mkF m pc L (.ref a :: S)) rfl rfl (hb hby d.1)
  obtain ⟨T', locs', k', n', r, G', g1, g2, g3, g4, g5, g6, g7, g8⟩ := h hw p e s m args below meth c T1 locs L hx hby hml hret hnm hown hZ hf hsz X1 (by rw [e1]; exact hR) hF
  exact ⟨T', locs', k', n', r, G', g1, g2, g3, g4, g5, g6, g7, fun fs hr => st1 _ (g8 fs hr)⟩
theorem Runs.getA {ty : FieldType} {len : Int32} (d : DAt M pc (.getfield idx) 3 q) (hk : K.2.2[j]? = some (nm, ty, len)) (w : Jvm.Cond.fieldLink M.1.cls idx K.1 nm (aD ty) ∈ tables_1) (hq : j < qq) (h : Runs C M k n q P (.ref (a + 1 + j) :: S) (top, (a, qq, ob) :: H) Q) : Runs C M k n pc P (.ref a :: S) (top, (a, qq, ob) :: H) Q := by
  intro hw p e s m args below meth c T locs L hx hby hml hret hnm hown hZ hf hsz X hR hF
  have hqq := d.2
  subst hqq
  obtain ⟨T1, X1, e1, st1⟩ := getF X hx hZ hown (host := "") (Or.inl (hw _ w)) Via.refl rfl (hR.objs.2.2.2.2.1 j _ hk hq).1 (g := mkF m pc L (.ref a :: S)) rfl rfl (hb hby d.1)
  obtain ⟨T', locs', k', n', r, G', g1, g2, g3, g4, g5, g6, g7, g8⟩ := h hw p e s m args below meth c T1 locs L hx hby hml hret hnm hown hZ hf hsz X1 (by rw [e1]; exact hR) hF
  exact ⟨T', locs', k', n', r, G', g1, g2, g3, g4, g5, g6, g7, fun fs hr => st1 _ (g8 fs hr)⟩
theorem lw_of {Z : State} {a0 : Array Value} {meth : Method} (hw : ∀ d ∈ tables_1, d.before a0 Z = true) {C O n d own : String} (h : Jvm.Cond.lays C O n d ∈ tables_1 ∨ Jvm.Cond.laysFinal C O n d ∈ tables_1) (hc : Jvm.Cond.lays C O n d ∈ tables_1 ∨ (own = O ∧ meth.name = "<init>")) : (Jvm.Cond.lays C O n d).before a0 Z = true ∨ ((Jvm.Cond.laysFinal C O n d).before a0 Z = true ∧ own = O ∧ meth.name = "<init>") := by
  rcases hc with hc | hc
  · exact Or.inl (hw _ hc)
  · exact h.imp (hw _) (fun u => ⟨hw _ u, hc⟩)
/-- a field that may be written here: not final, or in a constructor of its class -/
def Mine (M : Bdy) (nm ds : String) : Prop := Jvm.Cond.lays K.1 K.1 nm ds ∈ tables_1 ∨ (M.1.cls = K.1 ∧ M.1.name = "<init>")
theorem Runs.putI {x : Int32} (d : DAt M pc (.putfield idx) 3 q) (w : Jvm.Cond.fieldLink M.1.cls idx K.1 nm "I" ∈ tables_1) (hk : K.2.1[j]? = some (nm, "I")) (hm : Mine M nm "I") (h : Runs C M k n q P S (top, (a, qq, sI ob j x) :: H) Q) : Runs C M k n pc P (.int x :: .ref a :: S) (top, (a, qq, ob) :: H) Q := by
  intro hw p e s m args below meth c T locs L hx hby hml hret hnm hown hZ hf hsz X hR hF
  have hqq := d.2
  subst hqq
  obtain ⟨T1, h1, X1, e1, W1, st1⟩ := putF X hx hZ hown (host := "") (Or.inl (hw _ w)) Via.refl rfl (hR.objs.2.2.2.1 j _ hk) hR.objs.2.2.1 (lw_of hw ((All.mem kS (List.mem_of_getElem? hk)).1) (hm.imp id (fun u => ⟨u.1, hnm.trans u.2⟩))) (hw _ kI) (ty := .int) (by decide) rfl rfl (g := mkF m pc L (.int x :: .ref a :: S)) rfl rfl (hb hby d.1)
  obtain ⟨T', locs', k', n', r, G', g1, g2, g3, g4, g5, g6, g7, g8⟩ := h hw p e s m args below meth c T1 _ L hx hby hml hret hnm hown hZ hf hsz X1 (by rw [e1]; exact hR.putI hw hk W1) (Fr.snoc X1 hF hR.objs.1)
  exact ⟨T', locs', k', n', r, G', g1, g2, g3, g4, g5, g6, g7, fun fs hr => st1 _ (g8 fs hr)⟩
theorem Runs.putZ {x y : Int32} (d : DAt M pc (.putfield idx) 3 q) (w : Jvm.Cond.fieldLink M.1.cls idx K.1 nm "Z" ∈ tables_1) (hk : K.2.1[j]? = some (nm, "Z")) (hm : Mine M nm "Z") (hy : nar .boolean x = y) (h : Runs C M k n q P S (top, (a, qq, sI ob j y) :: H) Q) : Runs C M k n pc P (.int x :: .ref a :: S) (top, (a, qq, ob) :: H) Q := by
  subst hy
  intro hw p e s m args below meth c T locs L hx hby hml hret hnm hown hZ hf hsz X hR hF
  have hqq := d.2
  subst hqq
  obtain ⟨T1, h1, X1, e1, W1, st1⟩ := putFN X hx hZ hown (hw _ w) Via.refl rfl (hR.objs.2.2.2.1 j _ hk) hR.objs.2.2.1 (lw_of hw ((All.mem kS (List.mem_of_getElem? hk)).1) (hm.imp id (fun u => ⟨u.1, hnm.trans u.2⟩))) (hw _ kI) (ty := .boolean) (v' := .int (nar .boolean x)) (by decide) rfl (fits_nar_bool _) (g := mkF m pc L (.int x :: .ref a :: S)) rfl rfl (hb hby d.1)
  obtain ⟨T', locs', k', n', r, G', g1, g2, g3, g4, g5, g6, g7, g8⟩ := h hw p e s m args below meth c T1 _ L hx hby hml hret hnm hown hZ hf hsz X1 (by rw [e1]; exact hR.putI hw hk W1) (Fr.snoc X1 hF hR.objs.1)
  exact ⟨T', locs', k', n', r, G', g1, g2, g3, g4, g5, g6, g7, fun fs hr => st1 _ (g8 fs hr)⟩
theorem Runs.ialoadA {i len : Int32} (d : DAt M pc .iaload 1 q) (hk : K.2.2[j]? = some (nm, .int, len)) (hq : j < qq) (hi : ¬ i < 0 ∧ i < len) (h : Runs C M k n q P (.int (gA ob j i) :: S) (top, (a, qq, ob) :: H) Q) : Runs C M k n pc P (.int i :: .ref (a + 1 + j) :: S) (top, (a, qq, ob) :: H) Q := by
  have hqq := d.2
  subst hqq
  refine Runs.pure d (fun p e s m args below meth c T locs L hw hx hown hZ hd hP hsz hR X => ⟨L, hP, hsz, fun t r => ?_⟩) h
  obtain ⟨cl, A, Sz, V⟩ := (hR.objs.2.2.2.2.1 j _ hk hq).2
  exact X.iaload hx (j := i) (v := .int (gA ob j i)) A.1 (State.isArrayOf_alike hZ.alike A.2.1) A.2.2 (inb_of Sz hi) (V i hi.1 hi.2) (g := mkF m pc L (.int i :: .ref (a + 1 + j) :: S)) rfl rfl hd _ r
theorem Runs.baloadA {i len : Int32} (d : DAt M pc .baload 1 q) (hk : K.2.2[j]? = some (nm, .boolean, len)) (hq : j < qq) (hi : ¬ i < 0 ∧ i < len) (h : Runs C M k n q P (.int (gA ob j i) :: S) (top, (a, qq, ob) :: H) Q) : Runs C M k n pc P (.int i :: .ref (a + 1 + j) :: S) (top, (a, qq, ob) :: H) Q := by
  have hqq := d.2
  subst hqq
  refine Runs.pure d (fun p e s m args below meth c T locs L hw hx hown hZ hd hP hsz hR X => ⟨L, hP, hsz, fun t r => ?_⟩) h
  obtain ⟨cl, A, Sz, V⟩ := (hR.objs.2.2.2.2.1 j _ hk hq).2
  exact X.baloadBooleans hx (j := i) (v := .int (gA ob j i)) A.1 (State.isArrayOf_alike hZ.alike A.2.1) A.2.2 (inb_of Sz hi) (V i hi.1 hi.2) (g := mkF m pc L (.int i :: .ref (a + 1 + j) :: S)) rfl rfl hd _ r
theorem Runs.laloadA {i len : Int32} (d : DAt M pc .laload 1 q) (hk : K.2.2[j]? = some (nm, .long, len)) (hq : j < qq) (hi : ¬ i < 0 ∧ i < len) (h : Runs C M k n q P (.long (gJ ob j i) :: S) (top, (a, qq, ob) :: H) Q) : Runs C M k n pc P (.int i :: .ref (a + 1 + j) :: S) (top, (a, qq, ob) :: H) Q := by
  have hqq := d.2
  subst hqq
  refine Runs.pure d (fun p e s m args below meth c T locs L hw hx hown hZ hd hP hsz hR X => ⟨L, hP, hsz, fun t r => ?_⟩) h
  obtain ⟨cl, A, Sz, V⟩ := (hR.objs.2.2.2.2.1 j _ hk hq).2
  exact X.laload hx (j := i) (v := .long (gJ ob j i)) A.1 (State.isArrayOf_alike hZ.alike A.2.1) A.2.2 (inb_of Sz hi) (V i hi.1 hi.2) (g := mkF m pc L (.int i :: .ref (a + 1 + j) :: S)) rfl rfl hd _ r
theorem Runs.iastoreA {i x len : Int32} (d : DAt M pc .iastore 1 q) (hk : K.2.2[j]? = some (nm, .int, len)) (hq : j < qq) (hi : ¬ i < 0 ∧ i < len) (h : Runs C M k n q P S (top, (a, qq, sA ob j i x) :: H) Q) : Runs C M k n pc P (.int x :: .int i :: .ref (a + 1 + j) :: S) (top, (a, qq, ob) :: H) Q := by
  intro hw p e s m args below meth c T locs L hx hby hml hret hnm hown hZ hf hsz X hR hF
  have hqq := d.2
  subst hqq
  obtain ⟨cl, A, Sz, V⟩ := (hR.objs.2.2.2.2.1 j _ hk hq).2
  obtain ⟨T1, h1, X1, e1, W1, st1⟩ := stI X hx hZ rfl A (j := i) (x := x) (inb_of Sz hi) (g := mkF m pc L (.int x :: .int i :: .ref (a + 1 + j) :: S)) rfl rfl (hb hby d.1)
  obtain ⟨T', locs', k', n', r, G', g1, g2, g3, g4, g5, g6, g7, g8⟩ := h hw p e s m args below meth c T1 _ L hx hby hml hret hnm hown hZ hf hsz X1 (by rw [e1]; exact hR.putA hk hq (by simp) hi W1) (Fr.snoc X1 hF (by have := hR.objs.1; omega))
  exact ⟨T', locs', k', n', r, G', g1, g2, g3, g4, g5, g6, g7, fun fs hr => st1 _ (g8 fs hr)⟩
theorem Runs.bastoreA {i x len : Int32} (d : DAt M pc .bastore 1 q) (hk : K.2.2[j]? = some (nm, .boolean, len)) (hq : j < qq) (hi : ¬ i < 0 ∧ i < len) {y : Int32} (hy : nar .boolean x = y) (h : Runs C M k n q P S (top, (a, qq, sA ob j i y) :: H) Q) : Runs C M k n pc P (.int x :: .int i :: .ref (a + 1 + j) :: S) (top, (a, qq, ob) :: H) Q := by
  subst hy
  intro hw p e s m args below meth c T locs L hx hby hml hret hnm hown hZ hf hsz X hR hF
  have hqq := d.2
  subst hqq
  obtain ⟨cl, A, Sz, V⟩ := (hR.objs.2.2.2.2.1 j _ hk hq).2
  obtain ⟨T1, h1, X1, e1, W1, st1⟩ := stZ X hx hZ rfl A (j := i) (x := x) (inb_of Sz hi) (g := mkF m pc L (.int x :: .int i :: .ref (a + 1 + j) :: S)) rfl rfl (hb hby d.1)
  obtain ⟨T', locs', k', n', r, G', g1, g2, g3, g4, g5, g6, g7, g8⟩ := h hw p e s m args below meth c T1 _ L hx hby hml hret hnm hown hZ hf hsz X1 (by rw [e1]; exact hR.putA hk hq (by simp) hi W1) (Fr.snoc X1 hF (by have := hR.objs.1; omega))
  exact ⟨T', locs', k', n', r, G', g1, g2, g3, g4, g5, g6, g7, fun fs hr => st1 _ (g8 fs hr)⟩
theorem Runs.lastoreA {i len : Int32} {x : Int64} (d : DAt M pc .lastore 1 q) (hk : K.2.2[j]? = some (nm, .long, len)) (hq : j < qq) (hi : ¬ i < 0 ∧ i < len) (h : Runs C M k n q P S (top, (a, qq, sJ ob j i x) :: H) Q) : Runs C M k n pc P (.long x :: .int i :: .ref (a + 1 + j) :: S) (top, (a, qq, ob) :: H) Q := by
  intro hw p e s m args below meth c T locs L hx hby hml hret hnm hown hZ hf hsz X hR hF
  have hqq := d.2
  subst hqq
  obtain ⟨cl, A, Sz, V⟩ := (hR.objs.2.2.2.2.1 j _ hk hq).2
  obtain ⟨T1, h1, X1, e1, W1, st1⟩ := stJ X hx hZ rfl A (j := i) (x := x) (inb_of Sz hi) (g := mkF m pc L (.long x :: .int i :: .ref (a + 1 + j) :: S)) rfl rfl (hb hby d.1)
  obtain ⟨T', locs', k', n', r, G', g1, g2, g3, g4, g5, g6, g7, g8⟩ := h hw p e s m args below meth c T1 _ L hx hby hml hret hnm hown hZ hf hsz X1 (by rw [e1]; exact hR.putJ hk hq rfl hi W1) (Fr.snoc X1 hF (by have := hR.objs.1; omega))
  exact ⟨T', locs', k', n', r, G', g1, g2, g3, g4, g5, g6, g7, fun fs hr => st1 _ (g8 fs hr)⟩
/-- the script: an array that stood before the law began -/
def ScrF (C : Ctx) (sa : Nat) (z : Int32) (f : Int32 → Int32) : Prop := ∃ cl : Cell, Scr C.2.1 C.2.1.heap sa cl z ∧ f = atv cl
theorem Runs.lenS {sa : Nat} {z : Int32} {f : Int32 → Int32} (hs : ScrF C sa z f) (d : DAt M pc .arraylength 1 q) (h : Runs C M k n q P (.int z :: S) G Q) : Runs C M k n pc P (.ref sa :: S) G Q := by
  have hqq := d.2
  subst hqq
  refine Runs.pure d (fun p e s m args below meth c T locs L hw hx hown hZ hd hP hsz hR X => ⟨L, hP, hsz, fun t r => ?_⟩) h
  obtain ⟨cl, F, -⟩ := hs
  obtain ⟨A, Sz, N, V⟩ := F.ext hR.2.1.2
  exact X.arraylength hx A.1 (State.isArrayOf_alike hZ.alike A.2.1) (g := mkF m pc L (.ref sa :: S)) rfl rfl hd _ (by rw [len_of Sz N]; exact r)
theorem Runs.ialoadS {sa : Nat} {z i : Int32} {f : Int32 → Int32} (hs : ScrF C sa z f) (d : DAt M pc .iaload 1 q) (hi : ¬ i < 0 ∧ i < z) (h : Runs C M k n q P (.int (f i) :: S) G Q) : Runs C M k n pc P (.int i :: .ref sa :: S) G Q := by
  have hqq := d.2
  subst hqq
  refine Runs.pure d (fun p e s m args below meth c T locs L hw hx hown hZ hd hP hsz hR X => ⟨L, hP, hsz, fun t r => ?_⟩) h
  obtain ⟨cl, F, rfl⟩ := hs
  obtain ⟨A, Sz, N, V⟩ := F.ext hR.2.1.2
  exact X.iaload hx (j := i) (v := .int (atv cl i)) A.1 (State.isArrayOf_alike hZ.alike A.2.1) A.2.2 (inb_of Sz hi) (V i (inb_of Sz hi)) (g := mkF m pc L (.int i :: .ref sa :: S)) rfl rfl hd _ r
/- leaving -/
theorem Runs.retI {v : Int32} (d : DAt M pc .ireturn 1 q) (hret : M.2.2.2.1 = some .int) (hk : k ≤ M.2.2.2.2.cells ∧ n ≤ M.2.2.2.2.slots) (hQ : Q (some (.int v)) G) : Runs C M k n pc P (.int v :: S) G Q := by
  intro hw p e s m args below meth c T locs L hx hby hml hr0 hnm hown hZ hf hsz X hR hF
  exact ⟨T, locs, k, n, _, G, X, hk.1, hk.2, hR, hF, hQ, (fun u => by rw [hret] at u; cases u), fun fs hr => Jvm.RoadKit.retI X hx (hr0.trans hret) (hb hby d.1) hr⟩
theorem Runs.retZ {v : Int32} (d : DAt M pc .ireturn 1 q) (hret : M.2.2.2.1 = some .boolean) (hk : k ≤ M.2.2.2.2.cells ∧ n ≤ M.2.2.2.2.slots) {y : Int32} (hy : nar .boolean v = y) (hQ : Q (some (.int y)) G) : Runs C M k n pc P (.int v :: S) G Q := by
  subst hy
  intro hw p e s m args below meth c T locs L hx hby hml hr0 hnm hown hZ hf hsz X hR hF
  exact ⟨T, locs, k, n, _, G, X, hk.1, hk.2, hR, hF, hQ, (fun u => by rw [hret] at u; cases u), fun fs hr => retN X hx (t := .boolean) (hr0.trans hret) (by simp) (hb hby d.1) hr⟩
theorem Runs.retJ {v : Int64} (d : DAt M pc .lreturn 1 q) (hret : M.2.2.2.1 = some .long) (hk : k ≤ M.2.2.2.2.cells ∧ n ≤ M.2.2.2.2.slots) (hQ : Q (some (.long v)) G) : Runs C M k n pc P (.long v :: []) G Q := by
  intro hw p e s m args below meth c T locs L hx hby hml hr0 hnm hown hZ hf hsz X hR hF
  exact ⟨T, locs, k, n, _, G, X, hk.1, hk.2, hR, hF, hQ, (fun u => by rw [hret] at u; cases u), fun fs hr => X.lreturnOut hx (hr0.trans hret) (hb hby d.1) hr⟩
theorem Runs.retV (d : DAt M pc .return_ 1 q) (hret : M.2.2.2.1 = none) (hk : k ≤ M.2.2.2.2.cells ∧ n ≤ M.2.2.2.2.slots) (hQ : Q none G) : Runs C M k n pc P [] G Q := by
  intro hw p e s m args below meth c T locs L hx hby hml hr0 hnm hown hZ hf hsz X hR hF
  exact ⟨T, locs, k, n, _, G, X, hk.1, hk.2, hR, hF, hQ, (fun _ => rfl), fun fs hr => X.returnOut hx (hr0.trans hret) (hb hby d.1) hr⟩
/- a new object, and the arrays that its constructor makes -/
theorem Runs.newK (d : DAt M pc (.new idx) 3 q) (w : Jvm.Cond.classLink M.1.cls idx K.1 ∈ tables_1) (hc : k + 1 ≤ M.2.2.2.2.cells ∧ n + kN ≤ M.2.2.2.2.slots) {k' n' : Nat} (hk' : k + 1 = k') (hn' : n + kN = n') {H : List (Nat × Nat × Rec)} (hd : ∀ x ∈ H, x.1 + x.2.1 < top) (h : Runs C M k' n' q P (.ref top :: S) (top + 1, (top, 0, zrec) :: H) Q) : Runs C M k n pc P S (top, H) Q := by
  subst hk' hn'
  intro hw p e s m args below meth c T locs L hx hby hml hr0 hnm hown hZ hf hsz X hR hF
  have hqq := d.2
  subst hqq
  obtain ⟨T2, X2, s2, E2, A2, D2, st2⟩ := new1 X hx hZ hown (hw _ w) (hw _ kI) (hw _ kZ) (g := mkF m pc L S) rfl (hb hby d.1) hc.1 hc.2
  have hs : T.heap.size = top := hR.1
  rw [hs] at A2 D2 st2 s2
  have hR2 : Rep C.2.1 C.2.2.1 T2.heap (top + 1, (top, 0, zrec) :: H) := by
    refine ⟨s2, hR.2.1.ext E2, fun x hx' => ?_, ?_⟩
    · rcases List.mem_cons.mp hx' with rfl | hx'
      · refine ⟨?_, by simp, A2, fun k nd hk => ?_, fun k t hk hq => by simp at hq, fun k t hk hq => ?_⟩
        · have := hR.2.1.2.1; rw [hR.2.1.1] at this; simp only; omega
        · rcases (All.mem kS (List.mem_of_getElem? hk)).2 with e | e
          · have := D2 (laidS hw hk) (ty := .int) (by rw [e]; decide); exact this
          · have := D2 (laidS hw hk) (ty := .boolean) (by rw [e]; decide); exact this
        · have := D2 (laidA hw hk) (pfA hk); exact this
      · obtain ⟨p1, p2, p3⟩ := hR.2.2.1 x hx'
        exact ⟨p1, by simp only at p2 ⊢; omega, p3.ext E2⟩
    · exact List.pairwise_cons.mpr ⟨fun y hy => Or.inr (hd y hy), hR.2.2.2⟩
  obtain ⟨T', locs', k', n', r, G', g1, g2, g3, g4, g5, g6, g7, g8⟩ := h hw p e s m args below meth c T2 _ L hx hby hml hr0 hnm hown hZ hf hsz X2 hR2 hF
  exact ⟨T', locs', k', n', r, G', g1, g2, g3, g4, g5, g6, g7, fun fs hr => st2 _ (g8 fs hr)⟩
/-- newarray and the putfield behind it: the next array of an object that is being made -/
theorem Runs.newArr {aty : ArrayType} {ty : FieldType} {len : Int32} {q1 : Nat} (d : DAt M pc (.newarray aty) 2 q1) (d' : DAt M q1 (.putfield idx) 3 q) (hk : K.2.2[j]? = some (nm, ty, len)) (w : Jvm.Cond.fieldLink M.1.cls idx K.1 nm (aD ty) ∈ tables_1) (ht : newarray.typeOf aty = ty) (wa : Jvm.Cond.arrayClass ty ∈ tables_1) (hm : Mine M nm (aD ty))
    (htop : top = a + 1 + j) (hlen : ¬ len < 0 ∧ len.toNatClampNeg * 8 ≤ 536870912) (hc : k + 1 ≤ M.2.2.2.2.cells ∧ n + len.toNatClampNeg ≤ M.2.2.2.2.slots) (hz : (∀ i, ob.2.1 j i = 0) ∧ (∀ i, ob.2.2 j i = 0)) {j' top' k' n' : Nat} (hj' : j + 1 = j') (ht' : top + 1 = top') (hk' : k + 1 = k') (hn' : n + len.toNatClampNeg = n')
    (h : Runs C M k' n' q P S (top', (a, j', ob) :: H) Q) : Runs C M k n pc P (.int len :: .ref a :: S) (top, (a, j, ob) :: H) Q := by
  subst hj' ht' hk' hn'
  intro hw p e s m args below meth c T locs L hx hby hml hr0 hnm hown hZ hf hsz X hR hF
  have hqq := d.2
  have hqq' := d'.2
  subst hqq hqq' ht
  obtain ⟨T1, cA, X1, s1, E1, A1, st1⟩ := newArr1 X hx hZ (hw _ wa) (g := mkF m pc L (.int len :: .ref a :: S)) rfl (hb hby d.1) rfl hlen.1 hlen.2 hc.1 hc.2
  have hs : T.heap.size = top := hR.1
  rw [hs] at A1 st1 s1
  have O1 := hR.objs.2.2.ext E1
  obtain ⟨T2, h2, X2, e2, W2, st2⟩ := putF X1 hx hZ hown (host := "") (Or.inl (hw _ w)) Via.refl rfl (O1.2.2.2 j _ hk (Nat.le_refl _)) O1.1 (lw_of hw ((All.mem kA (List.mem_of_getElem? hk)).1) (hm.imp id (fun u => ⟨u.1, hnm.trans u.2⟩))) (hw _ kI) (ty := .array (newarray.typeOf aty)) (pfA hk) rfl rfl (g := mkF m (pc + 2) L (.ref top :: .ref a :: S)) rfl rfl (hb hby d'.1)
  have hts : (newarray.typeOf aty = .int ∨ newarray.typeOf aty = .boolean ∨ newarray.typeOf aty = .long) := (All.mem kA (List.mem_of_getElem? hk)).2.1
  have hA := arr_new A1 hts hz
  have hR2 : Rep C.2.1 C.2.2.1 T2.heap (top + 1, (a, j + 1, ob) :: H) := by rw [e2]; exact hR.addA hw E1 s1 htop hk hA W2
  obtain ⟨T', locs', k', n', r, G', g1, g2, g3, g4, g5, g6, g7, g8⟩ := h hw p e s m args below meth c T2 _ L hx hby hml hr0 hnm hown hZ hf hsz X2 hR2 (Fr.snoc X2 hF hR.objs.1)
  exact ⟨T', locs', k', n', r, G', g1, g2, g3, g4, g5, g6, g7, fun fs hr => st1 _ (st2 _ (g8 fs hr))⟩
theorem Runs.initO {W : Nat} (d : DAt M pc (.invokespecial idx) 3 q) (w1 : Jvm.Cond.methodLink M.1.cls idx Lib.objectInit ∈ tables_1) (w2 : Jvm.Cond.instanceMethod Lib.objectInit ∈ tables_1) (w3 : Jvm.Cond.code Lib.objectInit ⟨#[0xb1]⟩ 1 none ∈ tables_1) (hW : (S.map fun v => v.category).sum = W) (hc : 1 ≤ M.2.2.2.2.frames ∧ W + 12 ≤ M.2.2.2.2.locals) (h : Runs C M k n q P S G Q) : Runs C M k n pc P (.ref a :: S) G Q := by
  intro hw p e s m args below meth c T locs L hx hby hml hr0 hnm hown hZ hf hsz X hR hF
  have hqq := d.2
  subst hqq
  obtain ⟨T1, X1, e1, st1⟩ := Jvm.RoadKit.initO X hx hZ hown (hw _ w1) (hw _ w2) (hw _ w3) rfl (g := mkF m pc L (.ref a :: S)) rfl (by rw [hml]; exact hsz) rfl (hb hby d.1) hc.1 (W := W) (by show 2 * 0 + _ ≤ _; omega) hc.2
  obtain ⟨T', locs', k', n', r, G', g1, g2, g3, g4, g5, g6, g7, g8⟩ := h hw p e s m args below meth c T1 _ L hx hby hml hr0 hnm hown hZ hf hsz X1 (by rw [e1]; exact hR) hF
  exact ⟨T', locs', k', n', r, G', g1, g2, g3, g4, g5, g6, g7, fun fs hr => st1 _ (g8 fs hr)⟩
end Heap
/- a body's contract, and the calls that are paid by one -/
def Pays (C : Ctx) (N : Bdy) (as : List Value) (G : AH) (Q : Option Value → AH → Prop) : Prop :=
  Ok C → ∀ h0 : Heap, Rep C.2.1 C.2.2.1 h0 G → ∀ ws : List Jvm.Cond, MetFree C.1 N.1 (head1 (Jvm.Cond.code N.1 N.2.1 N.2.2.1 N.2.2.2.1 :: ws) N.2.2.2.2) (fun a U => a = as.toArray ∧ C.2.1.Warmed39 U.vm ∧ U.heap = h0) (fun _ _ _ _ _ => True)
    (fun _ U o U' => ∃ v L, o = .returned v ∧ (Fr C.2.2.1 L ∧ ∃ G', Rep C.2.1 C.2.2.1 U'.heap G' ∧ Q v G') ∧ FrameEnd U o U' L N.2.2.2.2.cells N.2.2.2.2.slots)
def lay : List Value → List Slot
  | [] => []
  | v :: l => if v.category = 2 then .val v :: .second :: lay l else .val v :: lay l
theorem lay_foldl (l : List Value) : ∀ acc : Array Slot, (l.foldl (fun acc v => if v.category = 2 then (acc.push (.val v)).push .second else acc.push (.val v)) acc).toList = acc.toList ++ lay l := by
  induction l with
  | nil => intro acc; simp [lay]
  | cons v l ih =>
    intro acc
    rw [List.foldl_cons, ih]
    by_cases h : v.category = 2 <;> simp [lay, h]
theorem args_lay (as : List Value) (ml : Nat) : argsToLocals as.toArray ml = (lay as ++ List.replicate (ml - (lay as).length) Slot.unset).toArray := by
  have h := lay_foldl as #[]
  apply Array.ext'
  simp only [argsToLocals, Array.toList_append, List.toList_toArray] at *
  rw [show (as.toArray.foldl (init := #[]) fun acc v => if v.category = 2 then (acc.push (Slot.val v)).push .second else acc.push (.val v)).toList = lay as by simpa using h]
  congr 1
  rw [← Array.length_toList, show (as.toArray.foldl (init := #[]) fun acc v => if v.category = 2 then (acc.push (Slot.val v)).push .second else acc.push (.val v)).toList = lay as by simpa using h]
  simp
def WFL (l : List Slot) : Prop := (∀ i : Nat, l[i]? = some .second → ∃ (j : Nat) (v : Value), i = j + 1 ∧ l[j]? = some (.val v) ∧ v.category = 2) ∧ (∀ (i : Nat) (v : Value), l[i]? = some (.val v) → v.category = 2 → l[i + 1]? = some .second)
theorem WFL.unset (n : Nat) : WFL (List.replicate n Slot.unset) := by
  refine ⟨fun i h => ?_, fun i v h => ?_⟩ <;> (rw [List.getElem?_replicate] at h; split at h <;> cases h)
theorem WFL.one {l : List Slot} {v : Value} (h : WFL l) (hv : v.category ≠ 2) : WFL (.val v :: l) := by
  refine ⟨fun i hi => ?_, fun i w hi hw => ?_⟩
  · cases i with
    | zero => simp at hi
    | succ i =>
      obtain ⟨j, w, e1, e2, e3⟩ := h.1 i (by simpa using hi)
      exact ⟨j + 1, w, by omega, by simpa using e2, e3⟩
  · cases i with
    | zero => simp at hi; subst hi; exact absurd hw hv
    | succ i => have := h.2 i w (by simpa using hi) hw; simpa using this
theorem WFL.two {l : List Slot} {v : Value} (h : WFL l) (hv : v.category = 2) : WFL (.val v :: .second :: l) := by
  refine ⟨fun i hi => ?_, fun i w hi hw => ?_⟩
  · match i, hi with
    | 0, hi => simp at hi
    | 1, hi => exact ⟨0, v, rfl, by simp, hv⟩
    | i + 2, hi =>
      obtain ⟨j, w, e1, e2, e3⟩ := h.1 i (by simpa using hi)
      exact ⟨j + 2, w, by omega, by simpa using e2, e3⟩
  · match i, hi with
    | 0, hi => simp
    | 1, hi => simp at hi
    | i + 2, hi => have := h.2 i w (by simpa using hi) hw; simpa using this
theorem WFL.lay (as : List Value) (n : Nat) : WFL (lay as ++ List.replicate n Slot.unset) := by
  induction as with
  | nil => exact WFL.unset n
  | cons v l ih =>
    by_cases h : v.category = 2
    · simpa [Jvm.Pilot.@@N@@.lay, h] using ih.two h
    · simpa [Jvm.Pilot.@@N@@.lay, h] using ih.one h
def pforget : List Bool → Pat → Pat
  | [], _ => []
  | _, [] => []
  | true :: ms, x :: l => x :: pforget ms l
  | false :: ms, _ :: l => none :: pforget ms l
theorem pforget_get : ∀ (ms : List Bool) (P : Pat) (i : Nat) (s : Slot), pget (pforget ms P) i = some s → pget P i = some s
  | [], _, i, s, h => by simp [pforget, pget] at h
  | _ :: _, [], i, s, h => by simp [pforget, pget] at h
  | true :: ms, x :: l, 0, s, h => h
  | true :: ms, x :: l, i + 1, s, h => pforget_get ms l i s h
  | false :: ms, x :: l, 0, s, h => by simp [pforget, pget] at h
  | false :: ms, x :: l, i + 1, s, h => pforget_get ms l i s h
section Calls
variable {C : Ctx} {M N : Bdy} {k n pc q : Nat} {P P' : Pat} {S S' : List Value} {G G1 : AH} {Q : Option Value → AH → Prop} {top : Nat} {a : Nat} {qq j idx W : Nat} {ob : Rec} {H : List (Nat × Nat × Rec)} {as : List Value}
theorem Runs.forget (ms : List Bool) (hP : pforget ms P = P') (h : Runs C M k n pc P' S G Q) : Runs C M k n pc P S G Q := by
  intro hw p e s m args below meth c T locs L hx hby hml hret hnm hown hZ hf
  subst hP
  exact h hw p e s m args below meth c T locs L hx hby hml hret hnm hown hZ ⟨fun i s hi => hf.1 i s (pforget_get _ _ i s hi), hf.2⟩
theorem Pays.of (hpl : plainName N.1.cls = true) (hml : (lay as).length ≤ N.2.2.1) (x : Nat) (hP : (lay as).map some ++ List.replicate x none = P) (h : Runs C N 0 0 0 P [] G Q) : Pays C N as G Q := by
  intro hw h0 hR ws
  refine MetFree.of_bodySF (plainFor_of_name hpl) hisR ?_
  intro p e s m args below meth c s₁ Bd hml0 hp hK
  obtain ⟨rfl, hZ, hh⟩ := hp
  have X0 : Stand p C.1 e N.2.2.2.2 s m as.toArray below meth c s₁ [] 0 0 := Stand.of_body Bd
  have e0 : s₁.heap = h0 := by rw [← hh, Bd.state]; rfl
  obtain ⟨L, hL⟩ : ∃ L : Array Slot, L = (lay as ++ List.replicate (N.2.2.1 - (lay as).length) Slot.unset).toArray := ⟨_, rfl⟩
  have hfit : Fits P L := by
    subst hP hL
    refine ⟨fun i s hi => ?_, ?_⟩
    · rw [pget_eq] at hi
      cases hq : (lay as)[i]? with
      | none =>
        rw [List.getElem?_append_right (by simpa using hq), List.getElem?_replicate] at hi
        split at hi <;> simp at hi
      | some y =>
        have hlt := (List.getElem?_eq_some_iff.mp hq).1
        rw [List.getElem?_append_left (by simpa using hlt), List.getElem?_map, hq] at hi
        have this : y = s := by simpa using hi
        simp only [List.getElem?_toArray]
        rw [List.getElem?_append_left hlt, hq, this]
    · have := WFL.lay as (N.2.2.1 - (lay as).length)
      refine ⟨fun i hi => ?_, fun i v hi hv => ?_⟩
      · rw [List.getElem?_toArray] at hi
        obtain ⟨j, v, e1, e2, e3⟩ := this.1 i hi
        exact ⟨j, v, e1, by rw [List.getElem?_toArray]; exact e2, e3⟩
      · rw [List.getElem?_toArray] at hi ⊢
        exact this.2 i v hi hv
  obtain ⟨T', locs', k', n', r, G', g1, g2, g3, g4, g5, g6, g7, g8⟩ := h hw p e s m as.toArray below meth c s₁ [] L Bd.exec Bd.bytes hml0 Bd.returns (name_of_methodNamed Bd.named Bd.method).1 (findClass_of_methodNamed Bd.named) hZ hfit (by rw [hL]; simp; omega) X0 (by rw [e0]; exact hR) (Fr.nil _)
  obtain ⟨fs, hr, hrun, hended, hW, hsame⟩ := g1.leave (v := r) (fun u => g7 (by rw [← Bd.returns]; exact u))
  refine ⟨_, _, ?_, hrun, hended, _, _, rfl, ⟨g5, G', ?_, g6⟩, ⟨_, rfl⟩, hW, hsame.mono g2 g3⟩
  · have ef : entryFrame m as.toArray N.2.2.1 = mkF m 0 L [] := by
      rw [hL, ← args_lay]; rfl
    rw [ef]; exact g8 fs hr
  · exact g4
abbrev room_al (M N : Bdy) (W k n : Nat) : Prop := N.2.2.2.2.frames + 1 ≤ M.2.2.2.2.frames ∧ W + (N.2.2.1 + 11) + N.2.2.2.2.locals ≤ M.2.2.2.2.locals ∧ k + N.2.2.2.2.cells ≤ M.2.2.2.2.cells ∧ n + N.2.2.2.2.slots ≤ M.2.2.2.2.slots
abbrev room_ok (M N : Bdy) (W : Nat) : Prop := N.2.2.2.2.frames + 1 ≤ M.2.2.2.2.frames ∧ W + (N.2.2.1 + 11) + N.2.2.2.2.locals ≤ M.2.2.2.2.locals ∧ N.2.2.2.2.cells = 0 ∧ N.2.2.2.2.slots = 0
abbrev full_ok (M : Bdy) (k n : Nat) : Prop := k ≤ M.2.2.2.2.cells ∧ n ≤ M.2.2.2.2.slots
theorem room_ok.al (h : room_ok M N W) (f : full_ok M k n) : room_al M N W k n := ⟨h.1, h.2.1, by rw [h.2.2.1]; exact f.1, by rw [h.2.2.2]; exact f.2⟩
abbrev code_w (N : Bdy) : Prop := Jvm.Cond.code N.1 N.2.1 N.2.2.1 N.2.2.2.1 ∈ tables_1 ∧ Jvm.Cond.initialized N.1.cls ∈ tables_1 ∧ (N.1.cls ≠ "java/lang/invoke/MethodHandle" ∧ N.1.cls ≠ "java/lang/invoke/VarHandle")
def arity (N : Bdy) (na : Nat) : Prop := ∃ ps r, parseMethodDescriptor N.1.desc = some ⟨ps, r⟩ ∧ na = ps.length
theorem arity.len {na : Nat} (h : arity N na) (e : as.length = na) : ∀ sig, parseMethodDescriptor N.1.desc = some sig → as.length = sig.parameters.length := by
  obtain ⟨ps, r, h1, h2⟩ := h
  exact lenOf h1 (e.trans h2)
theorem after_call {v : Option Value} {p : Program} {e : Env} {s : State} {m : MethodId} {args : Array Value} {below : List Frame} {meth : Method} {c : Code} {T T0 : State} {locs : List Loc} {L : Array Slot} {QN : Option Value → AH → Prop} {Lc : List Loc}
    (hw : Ok C) (hx : p.tables.exec = Jvm.exec) (hby : c.code = M.2.1) (hml : c.maxLocals = M.2.2.1) (hret : meth.sig.returnType = M.2.2.2.1) (hnm : meth.name = M.1.name) (hown : s.vm.findClass M.1.cls = some m.cls) (hZ : C.2.1.Warmed39 s.vm) (hf : Fits P L) (hsz : L.size = M.2.2.1) (hF : Fr C.2.2.1 locs)
    (X : Stand p C.1 e M.2.2.2.2 s m args below meth c T (locs ++ Lc) (k + N.2.2.2.2.cells) (n + N.2.2.2.2.slots)) (hQ : Fr C.2.2.1 Lc ∧ ∃ G', Rep C.2.1 C.2.2.1 T.heap G' ∧ QN v G')
    (h : ∀ v G', QN v G' → Runs C M (k + N.2.2.2.2.cells) (n + N.2.2.2.2.slots) (pc + 3) P (v.toList ++ S') G' Q)
    (st : ∀ t, Steps p.tables e below (T.setTop (mkF m (pc + 3) L (v.toList ++ S'))) t → Steps p.tables e below (T0.setTop (mkF m pc L S)) t) :
    ∃ (T' : State) (locs' : List Loc) (k' n' : Nat) (r : Option Value) (G' : AH), Stand p C.1 e M.2.2.2.2 s m args below meth c T' locs' k' n' ∧ k' ≤ M.2.2.2.2.cells ∧ n' ≤ M.2.2.2.2.slots ∧ Rep C.2.1 C.2.2.1 T'.heap G' ∧ Fr C.2.2.1 locs' ∧ Q r G' ∧
      (M.2.2.2.1 = none → r = none) ∧
      ∀ fs : List Frame, (∀ (f : JFrame) (acts : List Action), f.method = m → f.locked = none → f.entered = [] → (doReturn e (T'.setTop f) acts r).1 = T'.setFrames fs) → Steps p.tables e below (T0.setTop (mkF m pc L S)) (T'.setFrames fs) := by
  obtain ⟨f1, G', f2, f3⟩ := hQ
  obtain ⟨T', locs', k', n', r, G'', g1, g2, g3, g4, g5, g6, g7, g8⟩ := h v G' f3 hw p e s m args below meth c T _ L hx hby hml hret hnm hown hZ hf hsz X f2 (Fr.app hF f1)
  exact ⟨T', locs', k', n', r, G'', g1, g2, g3, g4, g5, g6, g7, fun fs hr => st _ (g8 fs hr)⟩
theorem Runs.callS {QN : Option Value → AH → Prop} (d : DAt M pc (.invokestatic idx) 3 q) (wl : Jvm.Cond.methodLink M.1.cls idx N.1 ∈ tables_1) (wt : Jvm.Cond.static N.1 ∈ tables_1) (wc : code_w N) (ar : arity N as.length) (hr0 : room_ok M N W) (hfull : full_ok M k n) (hS : S = as.reverse ++ S') (hW : (S'.map fun v => v.category).sum = W)
    (hN : Pays C N as G QN) (h : ∀ v G', QN v G' → Runs C M k n q P (v.toList ++ S') G' Q) : Runs C M k n pc P S G Q := by
  intro hw p e s m args below meth c T locs L hx hby hml hret hnm hown hZ hf hsz X hR hF
  have hq := d.2
  subst hq hS
  have hr := hr0.al hfull
  obtain ⟨_, _, ⟨T1, L1, k1, n1⟩, -, X1, ⟨Lc, hQ, l1, y1, z1⟩, st⟩ := Jvm.LawKit.callS X hx (y := N.1) hown (mvT hZ (hw _ wl)) (mvT hZ (hw _ wt)) (mvT hZ (hw _ wc.2.1)) (mvT hZ (hw _ wc.1)) wc.2.2 (backOf (W := W) (Q := fun v h L => Fr C.2.2.1 L ∧ ∃ G', Rep C.2.1 C.2.2.1 h G' ∧ QN v G') (hN hw T.heap hR []) hZ (hw _ wc.1) (hw _ wc.2.1) hr.1 hr.2.1) (g := mkF m pc L (as.reverse ++ S')) rfl (by rw [hml]; exact hsz) (argsL := as) (rest := S') (ar.len rfl) rfl (by show 2 * 0 + _ ≤ _; omega) (hb hby d.1) (fun _ _ => ⟨rfl, rfl, hr.2.2.1, hr.2.2.2⟩)
  dsimp only [Pt.U, Pt.locs, Pt.cells, Pt.slots] at X1 l1 y1 z1 st hQ
  subst l1 y1 z1
  exact after_call hw hx hby hml hret hnm hown hZ hf hsz hF X1 hQ (by rw [hr0.2.2.1, hr0.2.2.2]; exact h) (fun t u => st t u)
theorem Runs.callV {QN : Option Value → AH → Prop} (d : DAt M pc (.invokevirtual idx) 3 q) (wl : Jvm.Cond.methodLink M.1.cls idx N.1 ∈ tables_1) (wd : Jvm.Cond.declares N.1 ∈ tables_1) (wi : Jvm.Cond.instanceMethod N.1 ∈ tables_1) (ws : Jvm.Cond.selects K.1 N.1 N.1 ∈ tables_1) (wc : code_w N) (ar : arity N as.length) (hr0 : room_ok M N W) (hfull : full_ok M k n) (hS : S = as.reverse ++ .ref a :: S') (hW : (S'.map fun v => v.category).sum = W)
    (hN : Pays C N (.ref a :: as) (top, (a, qq, ob) :: H) QN) (h : ∀ v G', QN v G' → Runs C M k n q P (v.toList ++ S') G' Q) : Runs C M k n pc P S (top, (a, qq, ob) :: H) Q := by
  intro hw p e s m args below meth c T locs L hx hby hml hret hnm hown hZ hf hsz X hR hF
  have hq := d.2
  subst hq hS
  have hr := hr0.al hfull
  obtain ⟨cB, kB, u1, -, u3⟩ := isOf hZ rfl hR.objs.2.2.1
  obtain ⟨_, _, ⟨T1, L1, k1, n1⟩, -, X1, ⟨Lc, hQ, l1, y1, z1⟩, st⟩ := X.virtualBack hx (y := N.1) (z := N.1) hown (mvT hZ (hw _ wl)) (mvT hZ (hw _ wd)) (notFace_of_selects (args := #[]) (mvT hZ (hw _ ws))) (mvT hZ (hw _ ws)) (mvT hZ (hw _ wi)) wc.2.2 (backOf (W := W) (Q := fun v h L => Fr C.2.2.1 L ∧ ∃ G', Rep C.2.1 C.2.2.1 h G' ∧ QN v G') (hN hw T.heap hR []) hZ (hw _ wc.1) (hw _ wc.2.1) hr.1 hr.2.1) u1 u3 (g := mkF m pc L (as.reverse ++ .ref a :: S')) rfl (by rw [hml]; exact hsz) (Steps.refl _) (argsL := as) (rest := S') (ar.len rfl) rfl (by show 2 * 0 + _ ≤ _; omega) (hb hby d.1) (fun _ _ => ⟨rfl, rfl, hr.2.2.1, hr.2.2.2⟩)
  dsimp only [Pt.U, Pt.locs, Pt.cells, Pt.slots] at X1 l1 y1 z1 st hQ
  subst l1 y1 z1
  exact after_call hw hx hby hml hret hnm hown hZ hf hsz hF X1 hQ (by rw [hr0.2.2.1, hr0.2.2.2]; exact h) (fun t u => st.trans u)
theorem Runs.callP {QN : Option Value → AH → Prop} (d : DAt M pc (.invokevirtual idx) 3 q) (wl : Jvm.Cond.methodLink M.1.cls idx N.1 ∈ tables_1) (wi : Jvm.Cond.instanceMethod N.1 ∈ tables_1) (wp : Jvm.Cond.privateMethod N.1 ∈ tables_1) (wK : N.1.cls = K.1) (wc : code_w N) (ar : arity N as.length) (hr0 : room_ok M N W) (hfull : full_ok M k n) (hS : S = as.reverse ++ .ref a :: S') (hW : (S'.map fun v => v.category).sum = W)
    (hN : Pays C N (.ref a :: as) (top, (a, qq, ob) :: H) QN) (h : ∀ v G', QN v G' → Runs C M k n q P (v.toList ++ S') G' Q) : Runs C M k n pc P S (top, (a, qq, ob) :: H) Q := by
  intro hw p e s m args below meth c T locs L hx hby hml hret hnm hown hZ hf hsz X hR hF
  have hq := d.2
  subst hq hS
  have hr := hr0.al hfull
  obtain ⟨cl, u1, u2⟩ := hR.objs.2.2.1.cell
  have hpr : s.PrivateAt N.1 := Cond.privateMethod_at (mvP hZ (hw _ wp) (args := #[]))
  obtain ⟨c2, k2, i1, i2, i3, i4, -⟩ := Cond.instantiable_spec (mvT (args := args) hZ (hw _ kI))
  have hsel : (Jvm.Cond.selects N.1.cls N.1 N.1).before args s = true := Stand.selects_self_of_private (by rw [wK]; exact i1) i2 (by simp at i4; exact i4.1) hpr (mvT hZ (hw _ wi)) wc.2.2
  obtain ⟨_, _, ⟨T1, L1, k1, n1⟩, -, X1, ⟨Lc, hQ, l1, y1, z1⟩, st⟩ := X.privateBack hx (y := N.1) hown (mvT hZ (hw _ wl)) (mvT hZ (hw _ wi)) hsel hpr (mvT hZ (hw _ wc.1)) wc.2.2 (backOf (W := W) (Q := fun v h L => Fr C.2.2.1 L ∧ ∃ G', Rep C.2.1 C.2.2.1 h G' ∧ QN v G') (hN hw T.heap hR []) hZ (hw _ wc.1) (hw _ wc.2.1) hr.1 hr.2.1) (g := mkF m pc L (as.reverse ++ .ref a :: S')) rfl (by rw [hml]; exact hsz) (Steps.refl _) (a := a) u1 u2 (argsL := as) (rest := S') (ar.len rfl) rfl (by show 2 * 0 + _ ≤ _; omega) (hb hby d.1) (fun _ _ => ⟨rfl, rfl, hr.2.2.1, hr.2.2.2⟩)
  dsimp only [Pt.U, Pt.locs, Pt.cells, Pt.slots] at X1 l1 y1 z1 st hQ
  subst l1 y1 z1
  exact after_call hw hx hby hml hret hnm hown hZ hf hsz hF X1 hQ (by rw [hr0.2.2.1, hr0.2.2.2]; exact h) (fun t u => st.trans u)
theorem Runs.callI {QN : Option Value → AH → Prop} (d : DAt M pc (.invokespecial idx) 3 q) (hi : N.1.name = "<init>") (hn : N.2.2.2.1 = none) (wl : Jvm.Cond.methodLink M.1.cls idx N.1 ∈ tables_1) (wi : Jvm.Cond.instanceMethod N.1 ∈ tables_1) (wc : code_w N) (ar : arity N as.length) (hr : room_al M N W k n) (hS : S = as.reverse ++ .ref a :: S') (hW : (S'.map fun v => v.category).sum = W) {k' n' : Nat} (hk' : k + N.2.2.2.2.cells = k') (hn' : n + N.2.2.2.2.slots = n')
    (hN : Pays C N (.ref a :: as) G QN) (h : ∀ v G', QN v G' → Runs C M k' n' q P (v.toList ++ S') G' Q) : Runs C M k n pc P S G Q := by
  intro hw p e s m args below meth c T locs L hx hby hml hret hnm hown hZ hf hsz X hR hF
  have hq := d.2
  subst hq hS hk' hn'
  have wc1 := hw _ wc.1
  obtain ⟨_, _, ⟨T1, L1, k1, n1⟩, -, X1, ⟨Lc, hQ, l1, y1, z1⟩, st⟩ := X.specialBack hx (y := N.1) hi hown (mvT hZ (hw _ wl)) (mvT hZ (hw _ wi)) (bytes := N.2.1) (maxL := N.2.2.1) (by have := mvT (args := args) hZ wc1; rw [hn] at this; exact this) wc.2.2 (backOf (W := W) (Q := fun v h L => Fr C.2.2.1 L ∧ ∃ G', Rep C.2.1 C.2.2.1 h G' ∧ QN v G') (hN hw T.heap hR []) hZ wc1 (hw _ wc.2.1) hr.1 hr.2.1) (g := mkF m pc L (as.reverse ++ .ref a :: S')) rfl (by rw [hml]; exact hsz) (Steps.refl _) (a := a) (argsL := as) (rest := S') (ar.len rfl) rfl (by show 2 * 0 + _ ≤ _; omega) (hb hby d.1) (fun _ _ => ⟨rfl, rfl, hr.2.2.1, hr.2.2.2⟩)
  dsimp only [Pt.U, Pt.locs, Pt.cells, Pt.slots] at X1 l1 y1 z1 st hQ
  subst l1 y1 z1
  exact after_call hw hx hby hml hret hnm hown hZ hf hsz hF X1 hQ h (fun t u => st.trans u)
/-- the plain form of a contract: one answer, one heap -/
abbrev Ans (r : Option Value) (G1 : AH) : Option Value → AH → Prop := fun v G' => v = r ∧ G' = G1
theorem ans1 {x : Value} {k n : Nat} (h : Runs C M k n pc P (x :: S) G1 Q) : ∀ v G', Ans (some x) G1 v G' → Runs C M k n pc P (v.toList ++ S) G' Q := by
  rintro v G' ⟨rfl, rfl⟩; exact h
theorem ans0 {k n : Nat} (h : Runs C M k n pc P S G1 Q) : ∀ v G', Ans none G1 v G' → Runs C M k n pc P (v.toList ++ S) G' Q := by
  rintro v G' ⟨rfl, rfl⟩; exact h
end Calls
theorem pnK : plainName "WsClockPager" = true := by first | (simp [plainName, overriddenIn]; done) | decide +kernel
theorem pnL : plainName "WsClockPagerL3" = true := by first | (simp [plainName, overriddenIn]; done) | decide +kernel
theorem w0 : (Jvm.Cond.classLink "WsClockPagerL3" (7 : Nat) "WsClockPager") ∈ tables_1 := mem1 0 rfl
theorem w3 : (Jvm.Cond.methodLink "WsClockPagerL3" (9 : Nat) ({ cls := "WsClockPager", name := "<init>", desc := "(IIII)V" } : Jvm.MethodName)) ∈ tables_1 := mem1 3 rfl
theorem w4 : (Jvm.Cond.instanceMethod ({ cls := "WsClockPager", name := "<init>", desc := "(IIII)V" } : Jvm.MethodName)) ∈ tables_1 := mem1 4 rfl
theorem w6 : (Jvm.Cond.methodLink "WsClockPager" (1 : Nat) ({ cls := "java/lang/Object", name := "<init>", desc := "()V" } : Jvm.MethodName)) ∈ tables_1 := mem1 6 rfl
theorem w7 : (Jvm.Cond.instanceMethod ({ cls := "java/lang/Object", name := "<init>", desc := "()V" } : Jvm.MethodName)) ∈ tables_1 := mem1 7 rfl
theorem w8 : (Jvm.Cond.code ({ cls := "java/lang/Object", name := "<init>", desc := "()V" } : Jvm.MethodName) object_method_1_code (1 : Nat) (Option.none : Option Jvm.ClassFile.FieldType)) ∈ tables_1 := mem1 8 rfl
theorem w9 : (Jvm.Cond.arrayClass Jvm.ClassFile.FieldType.boolean) ∈ tables_1 := mem1 9 rfl
theorem w10 : (Jvm.Cond.fieldLink "WsClockPager" (7 : Nat) "WsClockPager" "suspended" "[Z") ∈ tables_1 := mem1 10 rfl
theorem w11 : (Jvm.Cond.lays "WsClockPager" "WsClockPager" "suspended" "[Z") ∈ tables_1 := mem1 11 rfl
theorem w12 : (Jvm.Cond.arrayClass Jvm.ClassFile.FieldType.int) ∈ tables_1 := mem1 12 rfl
theorem w13 : (Jvm.Cond.fieldLink "WsClockPager" (13 : Nat) "WsClockPager" "vtime" "[I") ∈ tables_1 := mem1 13 rfl
theorem w14 : (Jvm.Cond.lays "WsClockPager" "WsClockPager" "vtime" "[I") ∈ tables_1 := mem1 14 rfl
theorem w15 : (Jvm.Cond.fieldLink "WsClockPager" (17 : Nat) "WsClockPager" "winLen" "[I") ∈ tables_1 := mem1 15 rfl
theorem w16 : (Jvm.Cond.lays "WsClockPager" "WsClockPager" "winLen" "[I") ∈ tables_1 := mem1 16 rfl
theorem w17 : (Jvm.Cond.fieldLink "WsClockPager" (20 : Nat) "WsClockPager" "winHead" "[I") ∈ tables_1 := mem1 17 rfl
theorem w18 : (Jvm.Cond.lays "WsClockPager" "WsClockPager" "winHead" "[I") ∈ tables_1 := mem1 18 rfl
theorem w19 : (Jvm.Cond.fieldLink "WsClockPager" (23 : Nat) "WsClockPager" "wsSize" "[I") ∈ tables_1 := mem1 19 rfl
theorem w20 : (Jvm.Cond.lays "WsClockPager" "WsClockPager" "wsSize" "[I") ∈ tables_1 := mem1 20 rfl
theorem w21 : (Jvm.Cond.fieldLink "WsClockPager" (26 : Nat) "WsClockPager" "touchedCount" "[I") ∈ tables_1 := mem1 21 rfl
theorem w22 : (Jvm.Cond.lays "WsClockPager" "WsClockPager" "touchedCount" "[I") ∈ tables_1 := mem1 22 rfl
theorem w23 : (Jvm.Cond.fieldLink "WsClockPager" (29 : Nat) "WsClockPager" "ring" "[I") ∈ tables_1 := mem1 23 rfl
theorem w24 : (Jvm.Cond.lays "WsClockPager" "WsClockPager" "ring" "[I") ∈ tables_1 := mem1 24 rfl
theorem w25 : (Jvm.Cond.fieldLink "WsClockPager" (32 : Nat) "WsClockPager" "winCount" "[I") ∈ tables_1 := mem1 25 rfl
theorem w26 : (Jvm.Cond.lays "WsClockPager" "WsClockPager" "winCount" "[I") ∈ tables_1 := mem1 26 rfl
theorem w27 : (Jvm.Cond.fieldLink "WsClockPager" (35 : Nat) "WsClockPager" "touched" "[Z") ∈ tables_1 := mem1 27 rfl
theorem w28 : (Jvm.Cond.lays "WsClockPager" "WsClockPager" "touched" "[Z") ∈ tables_1 := mem1 28 rfl
theorem w29 : (Jvm.Cond.fieldLink "WsClockPager" (38 : Nat) "WsClockPager" "pageFrame" "[I") ∈ tables_1 := mem1 29 rfl
theorem w30 : (Jvm.Cond.lays "WsClockPager" "WsClockPager" "pageFrame" "[I") ∈ tables_1 := mem1 30 rfl
theorem w31 : (Jvm.Cond.fieldLink "WsClockPager" (41 : Nat) "WsClockPager" "pageSlot" "[I") ∈ tables_1 := mem1 31 rfl
theorem w32 : (Jvm.Cond.lays "WsClockPager" "WsClockPager" "pageSlot" "[I") ∈ tables_1 := mem1 32 rfl
theorem w33 : (Jvm.Cond.fieldLink "WsClockPager" (44 : Nat) "WsClockPager" "pageLastUse" "[I") ∈ tables_1 := mem1 33 rfl
theorem w34 : (Jvm.Cond.lays "WsClockPager" "WsClockPager" "pageLastUse" "[I") ∈ tables_1 := mem1 34 rfl
theorem w35 : (Jvm.Cond.fieldLink "WsClockPager" (47 : Nat) "WsClockPager" "frameOwner" "[I") ∈ tables_1 := mem1 35 rfl
theorem w36 : (Jvm.Cond.lays "WsClockPager" "WsClockPager" "frameOwner" "[I") ∈ tables_1 := mem1 36 rfl
theorem w37 : (Jvm.Cond.fieldLink "WsClockPager" (50 : Nat) "WsClockPager" "frameRef" "[Z") ∈ tables_1 := mem1 37 rfl
theorem w38 : (Jvm.Cond.lays "WsClockPager" "WsClockPager" "frameRef" "[Z") ∈ tables_1 := mem1 38 rfl
theorem w39 : (Jvm.Cond.fieldLink "WsClockPager" (53 : Nat) "WsClockPager" "frameDirty" "[Z") ∈ tables_1 := mem1 39 rfl
theorem w40 : (Jvm.Cond.lays "WsClockPager" "WsClockPager" "frameDirty" "[Z") ∈ tables_1 := mem1 40 rfl
theorem w41 : (Jvm.Cond.fieldLink "WsClockPager" (56 : Nat) "WsClockPager" "frameWords" "[I") ∈ tables_1 := mem1 41 rfl
theorem w42 : (Jvm.Cond.lays "WsClockPager" "WsClockPager" "frameWords" "[I") ∈ tables_1 := mem1 42 rfl
theorem w43 : (Jvm.Cond.fieldLink "WsClockPager" (59 : Nat) "WsClockPager" "slotUsed" "[Z") ∈ tables_1 := mem1 43 rfl
theorem w44 : (Jvm.Cond.lays "WsClockPager" "WsClockPager" "slotUsed" "[Z") ∈ tables_1 := mem1 44 rfl
theorem w45 : (Jvm.Cond.fieldLink "WsClockPager" (62 : Nat) "WsClockPager" "swapWords" "[I") ∈ tables_1 := mem1 45 rfl
theorem w46 : (Jvm.Cond.lays "WsClockPager" "WsClockPager" "swapWords" "[I") ∈ tables_1 := mem1 46 rfl
theorem w47 : (Jvm.Cond.methodLink "WsClockPager" (65 : Nat) ({ cls := "WsClockPager", name := "clamp", desc := "(III)I" } : Jvm.MethodName)) ∈ tables_1 := mem1 47 rfl
theorem w48 : (Jvm.Cond.instanceMethod ({ cls := "WsClockPager", name := "clamp", desc := "(III)I" } : Jvm.MethodName)) ∈ tables_1 := mem1 48 rfl
theorem w49 : (Jvm.Cond.privateMethod ({ cls := "WsClockPager", name := "clamp", desc := "(III)I" } : Jvm.MethodName)) ∈ tables_1 := mem1 49 rfl
theorem w51 : (Jvm.Cond.fieldLink "WsClockPager" (69 : Nat) "WsClockPager" "procs" "I") ∈ tables_1 := mem1 51 rfl
theorem w52 : (Jvm.Cond.lays "WsClockPager" "WsClockPager" "procs" "I") ∈ tables_1 := mem1 52 rfl
theorem w53 : (Jvm.Cond.fieldLink "WsClockPager" (73 : Nat) "WsClockPager" "pages" "I") ∈ tables_1 := mem1 53 rfl
theorem w54 : (Jvm.Cond.lays "WsClockPager" "WsClockPager" "pages" "I") ∈ tables_1 := mem1 54 rfl
theorem w55 : (Jvm.Cond.fieldLink "WsClockPager" (76 : Nat) "WsClockPager" "frames" "I") ∈ tables_1 := mem1 55 rfl
theorem w56 : (Jvm.Cond.lays "WsClockPager" "WsClockPager" "frames" "I") ∈ tables_1 := mem1 56 rfl
theorem w57 : (Jvm.Cond.fieldLink "WsClockPager" (79 : Nat) "WsClockPager" "tau" "I") ∈ tables_1 := mem1 57 rfl
theorem w58 : (Jvm.Cond.lays "WsClockPager" "WsClockPager" "tau" "I") ∈ tables_1 := mem1 58 rfl
theorem w59 : (Jvm.Cond.fieldLink "WsClockPager" (82 : Nat) "WsClockPager" "status" "I") ∈ tables_1 := mem1 59 rfl
theorem w60 : (Jvm.Cond.lays "WsClockPager" "WsClockPager" "status" "I") ∈ tables_1 := mem1 60 rfl
theorem w61 : (Jvm.Cond.fieldLink "WsClockPager" (85 : Nat) "WsClockPager" "suspensionCount" "I") ∈ tables_1 := mem1 61 rfl
theorem w62 : (Jvm.Cond.lays "WsClockPager" "WsClockPager" "suspensionCount" "I") ∈ tables_1 := mem1 62 rfl
theorem w63 : (Jvm.Cond.fieldLink "WsClockPager" (88 : Nat) "WsClockPager" "readmissionCount" "I") ∈ tables_1 := mem1 63 rfl
theorem w64 : (Jvm.Cond.lays "WsClockPager" "WsClockPager" "readmissionCount" "I") ∈ tables_1 := mem1 64 rfl
theorem w65 : (Jvm.Cond.fieldLink "WsClockPager" (91 : Nat) "WsClockPager" "hand" "I") ∈ tables_1 := mem1 65 rfl
theorem w66 : (Jvm.Cond.lays "WsClockPager" "WsClockPager" "hand" "I") ∈ tables_1 := mem1 66 rfl
theorem w67 : (Jvm.Cond.methodLink "WsClockPagerL3" (12 : Nat) ({ cls := "WsClockPager", name := "store", desc := "(III)I" } : Jvm.MethodName)) ∈ tables_1 := mem1 67 rfl
theorem w68 : (Jvm.Cond.declares ({ cls := "WsClockPager", name := "store", desc := "(III)I" } : Jvm.MethodName)) ∈ tables_1 := mem1 68 rfl
theorem w69 : (Jvm.Cond.instanceMethod ({ cls := "WsClockPager", name := "store", desc := "(III)I" } : Jvm.MethodName)) ∈ tables_1 := mem1 69 rfl
theorem w70 : (Jvm.Cond.selects "WsClockPager" ({ cls := "WsClockPager", name := "store", desc := "(III)I" } : Jvm.MethodName) ({ cls := "WsClockPager", name := "store", desc := "(III)I" } : Jvm.MethodName)) ∈ tables_1 := mem1 70 rfl
theorem w72 : (Jvm.Cond.methodLink "WsClockPager" (94 : Nat) ({ cls := "WsClockPager", name := "check", desc := "(II)I" } : Jvm.MethodName)) ∈ tables_1 := mem1 72 rfl
theorem w73 : (Jvm.Cond.instanceMethod ({ cls := "WsClockPager", name := "check", desc := "(II)I" } : Jvm.MethodName)) ∈ tables_1 := mem1 73 rfl
theorem w74 : (Jvm.Cond.privateMethod ({ cls := "WsClockPager", name := "check", desc := "(II)I" } : Jvm.MethodName)) ∈ tables_1 := mem1 74 rfl
theorem w76 : (Jvm.Cond.methodLink "WsClockPager" (111 : Nat) ({ cls := "WsClockPager", name := "validPid", desc := "(I)Z" } : Jvm.MethodName)) ∈ tables_1 := mem1 76 rfl
theorem w77 : (Jvm.Cond.instanceMethod ({ cls := "WsClockPager", name := "validPid", desc := "(I)Z" } : Jvm.MethodName)) ∈ tables_1 := mem1 77 rfl
theorem w78 : (Jvm.Cond.privateMethod ({ cls := "WsClockPager", name := "validPid", desc := "(I)Z" } : Jvm.MethodName)) ∈ tables_1 := mem1 78 rfl
theorem w80 : (Jvm.Cond.methodLink "WsClockPager" (100 : Nat) ({ cls := "WsClockPager", name := "ensureResident", desc := "(II)I" } : Jvm.MethodName)) ∈ tables_1 := mem1 80 rfl
theorem w81 : (Jvm.Cond.instanceMethod ({ cls := "WsClockPager", name := "ensureResident", desc := "(II)I" } : Jvm.MethodName)) ∈ tables_1 := mem1 81 rfl
theorem w82 : (Jvm.Cond.privateMethod ({ cls := "WsClockPager", name := "ensureResident", desc := "(II)I" } : Jvm.MethodName)) ∈ tables_1 := mem1 82 rfl
theorem w84 : (Jvm.Cond.methodLink "WsClockPager" (132 : Nat) ({ cls := "WsClockPager", name := "findFreeFrame", desc := "()I" } : Jvm.MethodName)) ∈ tables_1 := mem1 84 rfl
theorem w85 : (Jvm.Cond.instanceMethod ({ cls := "WsClockPager", name := "findFreeFrame", desc := "()I" } : Jvm.MethodName)) ∈ tables_1 := mem1 85 rfl
theorem w86 : (Jvm.Cond.privateMethod ({ cls := "WsClockPager", name := "findFreeFrame", desc := "()I" } : Jvm.MethodName)) ∈ tables_1 := mem1 86 rfl
theorem w88 : (Jvm.Cond.methodLink "WsClockPager" (141 : Nat) ({ cls := "WsClockPager", name := "fillFrame", desc := "(II)V" } : Jvm.MethodName)) ∈ tables_1 := mem1 88 rfl
theorem w89 : (Jvm.Cond.instanceMethod ({ cls := "WsClockPager", name := "fillFrame", desc := "(II)V" } : Jvm.MethodName)) ∈ tables_1 := mem1 89 rfl
theorem w90 : (Jvm.Cond.privateMethod ({ cls := "WsClockPager", name := "fillFrame", desc := "(II)V" } : Jvm.MethodName)) ∈ tables_1 := mem1 90 rfl
theorem w92 : (Jvm.Cond.methodLink "WsClockPager" (103 : Nat) ({ cls := "WsClockPager", name := "recordReference", desc := "(II)V" } : Jvm.MethodName)) ∈ tables_1 := mem1 92 rfl
theorem w93 : (Jvm.Cond.instanceMethod ({ cls := "WsClockPager", name := "recordReference", desc := "(II)V" } : Jvm.MethodName)) ∈ tables_1 := mem1 93 rfl
theorem w94 : (Jvm.Cond.privateMethod ({ cls := "WsClockPager", name := "recordReference", desc := "(II)V" } : Jvm.MethodName)) ∈ tables_1 := mem1 94 rfl
theorem w96 : (Jvm.Cond.methodLink "WsClockPager" (121 : Nat) ({ cls := "WsClockPager", name := "pushWindow", desc := "(II)V" } : Jvm.MethodName)) ∈ tables_1 := mem1 96 rfl
theorem w97 : (Jvm.Cond.instanceMethod ({ cls := "WsClockPager", name := "pushWindow", desc := "(II)V" } : Jvm.MethodName)) ∈ tables_1 := mem1 97 rfl
theorem w98 : (Jvm.Cond.privateMethod ({ cls := "WsClockPager", name := "pushWindow", desc := "(II)V" } : Jvm.MethodName)) ∈ tables_1 := mem1 98 rfl
theorem w100 : (Jvm.Cond.methodLink "WsClockPager" (107 : Nat) ({ cls := "WsClockPager", name := "loadControl", desc := "(I)V" } : Jvm.MethodName)) ∈ tables_1 := mem1 100 rfl
theorem w101 : (Jvm.Cond.instanceMethod ({ cls := "WsClockPager", name := "loadControl", desc := "(I)V" } : Jvm.MethodName)) ∈ tables_1 := mem1 101 rfl
theorem w102 : (Jvm.Cond.privateMethod ({ cls := "WsClockPager", name := "loadControl", desc := "(I)V" } : Jvm.MethodName)) ∈ tables_1 := mem1 102 rfl
theorem w104 : (Jvm.Cond.methodLink "WsClockPager" (124 : Nat) ({ cls := "WsClockPager", name := "activeTotal", desc := "()I" } : Jvm.MethodName)) ∈ tables_1 := mem1 104 rfl
theorem w105 : (Jvm.Cond.declares ({ cls := "WsClockPager", name := "activeTotal", desc := "()I" } : Jvm.MethodName)) ∈ tables_1 := mem1 105 rfl
theorem w106 : (Jvm.Cond.instanceMethod ({ cls := "WsClockPager", name := "activeTotal", desc := "()I" } : Jvm.MethodName)) ∈ tables_1 := mem1 106 rfl
theorem w107 : (Jvm.Cond.selects "WsClockPager" ({ cls := "WsClockPager", name := "activeTotal", desc := "()I" } : Jvm.MethodName) ({ cls := "WsClockPager", name := "activeTotal", desc := "()I" } : Jvm.MethodName)) ∈ tables_1 := mem1 107 rfl
theorem w109 : (Jvm.Cond.methodLink "WsClockPager" (135 : Nat) ({ cls := "WsClockPager", name := "chooseVictim", desc := "()I" } : Jvm.MethodName)) ∈ tables_1 := mem1 109 rfl
theorem w110 : (Jvm.Cond.instanceMethod ({ cls := "WsClockPager", name := "chooseVictim", desc := "()I" } : Jvm.MethodName)) ∈ tables_1 := mem1 110 rfl
theorem w111 : (Jvm.Cond.privateMethod ({ cls := "WsClockPager", name := "chooseVictim", desc := "()I" } : Jvm.MethodName)) ∈ tables_1 := mem1 111 rfl
theorem w113 : (Jvm.Cond.methodLink "WsClockPager" (138 : Nat) ({ cls := "WsClockPager", name := "evictFrame", desc := "(I)V" } : Jvm.MethodName)) ∈ tables_1 := mem1 113 rfl
theorem w114 : (Jvm.Cond.instanceMethod ({ cls := "WsClockPager", name := "evictFrame", desc := "(I)V" } : Jvm.MethodName)) ∈ tables_1 := mem1 114 rfl
theorem w115 : (Jvm.Cond.privateMethod ({ cls := "WsClockPager", name := "evictFrame", desc := "(I)V" } : Jvm.MethodName)) ∈ tables_1 := mem1 115 rfl
theorem w117 : (Jvm.Cond.methodLink "WsClockPager" (144 : Nat) ({ cls := "WsClockPager", name := "writeBack", desc := "(I)V" } : Jvm.MethodName)) ∈ tables_1 := mem1 117 rfl
theorem w118 : (Jvm.Cond.instanceMethod ({ cls := "WsClockPager", name := "writeBack", desc := "(I)V" } : Jvm.MethodName)) ∈ tables_1 := mem1 118 rfl
theorem w119 : (Jvm.Cond.privateMethod ({ cls := "WsClockPager", name := "writeBack", desc := "(I)V" } : Jvm.MethodName)) ∈ tables_1 := mem1 119 rfl
theorem w121 : (Jvm.Cond.methodLink "WsClockPager" (147 : Nat) ({ cls := "WsClockPager", name := "allocSlot", desc := "()I" } : Jvm.MethodName)) ∈ tables_1 := mem1 121 rfl
theorem w122 : (Jvm.Cond.instanceMethod ({ cls := "WsClockPager", name := "allocSlot", desc := "()I" } : Jvm.MethodName)) ∈ tables_1 := mem1 122 rfl
theorem w123 : (Jvm.Cond.privateMethod ({ cls := "WsClockPager", name := "allocSlot", desc := "()I" } : Jvm.MethodName)) ∈ tables_1 := mem1 123 rfl
theorem w125 : (Jvm.Cond.methodLink "WsClockPager" (128 : Nat) ({ cls := "WsClockPager", name := "pickProcessToSuspend", desc := "(I)I" } : Jvm.MethodName)) ∈ tables_1 := mem1 125 rfl
theorem w126 : (Jvm.Cond.instanceMethod ({ cls := "WsClockPager", name := "pickProcessToSuspend", desc := "(I)I" } : Jvm.MethodName)) ∈ tables_1 := mem1 126 rfl
theorem w127 : (Jvm.Cond.privateMethod ({ cls := "WsClockPager", name := "pickProcessToSuspend", desc := "(I)I" } : Jvm.MethodName)) ∈ tables_1 := mem1 127 rfl
theorem w129 : (Jvm.Cond.methodLink "WsClockPagerL3" (16 : Nat) ({ cls := "WsClockPager", name := "isSuspended", desc := "(I)Z" } : Jvm.MethodName)) ∈ tables_1 := mem1 129 rfl
theorem w130 : (Jvm.Cond.declares ({ cls := "WsClockPager", name := "isSuspended", desc := "(I)Z" } : Jvm.MethodName)) ∈ tables_1 := mem1 130 rfl
theorem w131 : (Jvm.Cond.instanceMethod ({ cls := "WsClockPager", name := "isSuspended", desc := "(I)Z" } : Jvm.MethodName)) ∈ tables_1 := mem1 131 rfl
theorem w132 : (Jvm.Cond.selects "WsClockPager" ({ cls := "WsClockPager", name := "isSuspended", desc := "(I)Z" } : Jvm.MethodName) ({ cls := "WsClockPager", name := "isSuspended", desc := "(I)Z" } : Jvm.MethodName)) ∈ tables_1 := mem1 132 rfl
theorem w134 : (Jvm.Cond.methodLink "WsClockPagerL3" (20 : Nat) ({ cls := "WsClockPager", name := "activeTotal", desc := "()I" } : Jvm.MethodName)) ∈ tables_1 := mem1 134 rfl
theorem w135 : (Jvm.Cond.methodLink "WsClockPagerL3" (24 : Nat) ({ cls := "WsClockPager", name := "suspensions", desc := "()I" } : Jvm.MethodName)) ∈ tables_1 := mem1 135 rfl
theorem w136 : (Jvm.Cond.declares ({ cls := "WsClockPager", name := "suspensions", desc := "()I" } : Jvm.MethodName)) ∈ tables_1 := mem1 136 rfl
theorem w137 : (Jvm.Cond.instanceMethod ({ cls := "WsClockPager", name := "suspensions", desc := "()I" } : Jvm.MethodName)) ∈ tables_1 := mem1 137 rfl
theorem w138 : (Jvm.Cond.selects "WsClockPager" ({ cls := "WsClockPager", name := "suspensions", desc := "()I" } : Jvm.MethodName) ({ cls := "WsClockPager", name := "suspensions", desc := "()I" } : Jvm.MethodName)) ∈ tables_1 := mem1 138 rfl
theorem w140 : (Jvm.Cond.methodLink "WsClockPagerL3" (27 : Nat) ({ cls := "WsClockPager", name := "load", desc := "(II)J" } : Jvm.MethodName)) ∈ tables_1 := mem1 140 rfl
theorem w141 : (Jvm.Cond.declares ({ cls := "WsClockPager", name := "load", desc := "(II)J" } : Jvm.MethodName)) ∈ tables_1 := mem1 141 rfl
theorem w142 : (Jvm.Cond.instanceMethod ({ cls := "WsClockPager", name := "load", desc := "(II)J" } : Jvm.MethodName)) ∈ tables_1 := mem1 142 rfl
theorem w143 : (Jvm.Cond.selects "WsClockPager" ({ cls := "WsClockPager", name := "load", desc := "(II)J" } : Jvm.MethodName) ({ cls := "WsClockPager", name := "load", desc := "(II)J" } : Jvm.MethodName)) ∈ tables_1 := mem1 143 rfl
theorem w145 : (Jvm.Cond.constantLong "WsClockPager" (98 : Nat) (-9223372036854775808 : Int64)) ∈ tables_1 := mem1 145 rfl
theorem w146 : (Jvm.Cond.constantLong "WsClockPagerL3" (31 : Nat) (-9223372036854775808 : Int64)) ∈ tables_1 := mem1 146 rfl
theorem w147 : (Jvm.Cond.methodLink "WsClockPagerL3" (33 : Nat) ({ cls := "WsClockPager", name := "lastStatus", desc := "()I" } : Jvm.MethodName)) ∈ tables_1 := mem1 147 rfl
theorem w148 : (Jvm.Cond.declares ({ cls := "WsClockPager", name := "lastStatus", desc := "()I" } : Jvm.MethodName)) ∈ tables_1 := mem1 148 rfl
theorem w149 : (Jvm.Cond.instanceMethod ({ cls := "WsClockPager", name := "lastStatus", desc := "()I" } : Jvm.MethodName)) ∈ tables_1 := mem1 149 rfl
theorem w150 : (Jvm.Cond.selects "WsClockPager" ({ cls := "WsClockPager", name := "lastStatus", desc := "()I" } : Jvm.MethodName) ({ cls := "WsClockPager", name := "lastStatus", desc := "()I" } : Jvm.MethodName)) ∈ tables_1 := mem1 150 rfl
theorem w152 : (Jvm.Cond.methodLink "WsClockPagerL3" (36 : Nat) ({ cls := "WsClockPager", name := "release", desc := "(I)I" } : Jvm.MethodName)) ∈ tables_1 := mem1 152 rfl
theorem w153 : (Jvm.Cond.declares ({ cls := "WsClockPager", name := "release", desc := "(I)I" } : Jvm.MethodName)) ∈ tables_1 := mem1 153 rfl
theorem w154 : (Jvm.Cond.instanceMethod ({ cls := "WsClockPager", name := "release", desc := "(I)I" } : Jvm.MethodName)) ∈ tables_1 := mem1 154 rfl
theorem w155 : (Jvm.Cond.selects "WsClockPager" ({ cls := "WsClockPager", name := "release", desc := "(I)I" } : Jvm.MethodName) ({ cls := "WsClockPager", name := "release", desc := "(I)I" } : Jvm.MethodName)) ∈ tables_1 := mem1 155 rfl
theorem w157 : (Jvm.Cond.methodLink "WsClockPager" (115 : Nat) ({ cls := "WsClockPager", name := "discardPage", desc := "(I)V" } : Jvm.MethodName)) ∈ tables_1 := mem1 157 rfl
theorem w158 : (Jvm.Cond.instanceMethod ({ cls := "WsClockPager", name := "discardPage", desc := "(I)V" } : Jvm.MethodName)) ∈ tables_1 := mem1 158 rfl
theorem w159 : (Jvm.Cond.privateMethod ({ cls := "WsClockPager", name := "discardPage", desc := "(I)V" } : Jvm.MethodName)) ∈ tables_1 := mem1 159 rfl
theorem w161 : (Jvm.Cond.methodLink "WsClockPagerL3" (40 : Nat) ({ cls := "WsClockPager", name := "readmissions", desc := "()I" } : Jvm.MethodName)) ∈ tables_1 := mem1 161 rfl
theorem w162 : (Jvm.Cond.declares ({ cls := "WsClockPager", name := "readmissions", desc := "()I" } : Jvm.MethodName)) ∈ tables_1 := mem1 162 rfl
theorem w163 : (Jvm.Cond.instanceMethod ({ cls := "WsClockPager", name := "readmissions", desc := "()I" } : Jvm.MethodName)) ∈ tables_1 := mem1 163 rfl
theorem w164 : (Jvm.Cond.selects "WsClockPager" ({ cls := "WsClockPager", name := "readmissions", desc := "()I" } : Jvm.MethodName) ({ cls := "WsClockPager", name := "readmissions", desc := "()I" } : Jvm.MethodName)) ∈ tables_1 := mem1 164 rfl
theorem w166 : (Jvm.Cond.methodLink "WsClockPagerL3" (43 : Nat) ({ cls := "WsClockPager", name := "virtualTime", desc := "(I)I" } : Jvm.MethodName)) ∈ tables_1 := mem1 166 rfl
theorem w167 : (Jvm.Cond.declares ({ cls := "WsClockPager", name := "virtualTime", desc := "(I)I" } : Jvm.MethodName)) ∈ tables_1 := mem1 167 rfl
theorem w168 : (Jvm.Cond.instanceMethod ({ cls := "WsClockPager", name := "virtualTime", desc := "(I)I" } : Jvm.MethodName)) ∈ tables_1 := mem1 168 rfl
theorem w169 : (Jvm.Cond.selects "WsClockPager" ({ cls := "WsClockPager", name := "virtualTime", desc := "(I)I" } : Jvm.MethodName) ({ cls := "WsClockPager", name := "virtualTime", desc := "(I)I" } : Jvm.MethodName)) ∈ tables_1 := mem1 169 rfl
theorem w171 : (Jvm.Cond.methodLink "WsClockPagerL3" (46 : Nat) ({ cls := "WsClockPager", name := "workingSetSize", desc := "(I)I" } : Jvm.MethodName)) ∈ tables_1 := mem1 171 rfl
theorem w172 : (Jvm.Cond.declares ({ cls := "WsClockPager", name := "workingSetSize", desc := "(I)I" } : Jvm.MethodName)) ∈ tables_1 := mem1 172 rfl
theorem w173 : (Jvm.Cond.instanceMethod ({ cls := "WsClockPager", name := "workingSetSize", desc := "(I)I" } : Jvm.MethodName)) ∈ tables_1 := mem1 173 rfl
theorem w174 : (Jvm.Cond.selects "WsClockPager" ({ cls := "WsClockPager", name := "workingSetSize", desc := "(I)I" } : Jvm.MethodName) ({ cls := "WsClockPager", name := "workingSetSize", desc := "(I)I" } : Jvm.MethodName)) ∈ tables_1 := mem1 174 rfl
theorem w176 : (Jvm.Cond.methodLink "WsClockPagerL3" (49 : Nat) ({ cls := "WsClockPager", name := "memorySum", desc := "(I)I" } : Jvm.MethodName)) ∈ tables_1 := mem1 176 rfl
theorem w177 : (Jvm.Cond.declares ({ cls := "WsClockPager", name := "memorySum", desc := "(I)I" } : Jvm.MethodName)) ∈ tables_1 := mem1 177 rfl
theorem w178 : (Jvm.Cond.instanceMethod ({ cls := "WsClockPager", name := "memorySum", desc := "(I)I" } : Jvm.MethodName)) ∈ tables_1 := mem1 178 rfl
theorem w179 : (Jvm.Cond.selects "WsClockPager" ({ cls := "WsClockPager", name := "memorySum", desc := "(I)I" } : Jvm.MethodName) ({ cls := "WsClockPager", name := "memorySum", desc := "(I)I" } : Jvm.MethodName)) ∈ tables_1 := mem1 179 rfl
theorem w181 : (Jvm.Cond.methodLink "WsClockPager" (118 : Nat) ({ cls := "WsClockPager", name := "readWord", desc := "(II)I" } : Jvm.MethodName)) ∈ tables_1 := mem1 181 rfl
theorem w182 : (Jvm.Cond.instanceMethod ({ cls := "WsClockPager", name := "readWord", desc := "(II)I" } : Jvm.MethodName)) ∈ tables_1 := mem1 182 rfl
theorem w183 : (Jvm.Cond.privateMethod ({ cls := "WsClockPager", name := "readWord", desc := "(II)I" } : Jvm.MethodName)) ∈ tables_1 := mem1 183 rfl
theorem fS_0 : K.2.1[0]? = some ("procs", "I") := rfl
theorem fS_1 : K.2.1[1]? = some ("pages", "I") := rfl
theorem fS_2 : K.2.1[2]? = some ("frames", "I") := rfl
theorem fS_3 : K.2.1[3]? = some ("tau", "I") := rfl
theorem fS_4 : K.2.1[4]? = some ("status", "I") := rfl
theorem fS_5 : K.2.1[5]? = some ("suspensionCount", "I") := rfl
theorem fS_6 : K.2.1[6]? = some ("readmissionCount", "I") := rfl
theorem fS_7 : K.2.1[7]? = some ("hand", "I") := rfl
theorem fA_0 : K.2.2[0]? = some ("suspended", .boolean, (4 : Int32)) := rfl
theorem fA_1 : K.2.2[1]? = some ("vtime", .int, (4 : Int32)) := rfl
theorem fA_2 : K.2.2[2]? = some ("winLen", .int, (4 : Int32)) := rfl
theorem fA_3 : K.2.2[3]? = some ("winHead", .int, (4 : Int32)) := rfl
theorem fA_4 : K.2.2[4]? = some ("wsSize", .int, (4 : Int32)) := rfl
theorem fA_5 : K.2.2[5]? = some ("touchedCount", .int, (4 : Int32)) := rfl
theorem fA_6 : K.2.2[6]? = some ("ring", .int, (64 : Int32)) := rfl
theorem fA_7 : K.2.2[7]? = some ("winCount", .int, (64 : Int32)) := rfl
theorem fA_8 : K.2.2[8]? = some ("touched", .boolean, (64 : Int32)) := rfl
theorem fA_9 : K.2.2[9]? = some ("pageFrame", .int, (64 : Int32)) := rfl
theorem fA_10 : K.2.2[10]? = some ("pageSlot", .int, (64 : Int32)) := rfl
theorem fA_11 : K.2.2[11]? = some ("pageLastUse", .int, (64 : Int32)) := rfl
theorem fA_12 : K.2.2[12]? = some ("frameOwner", .int, (32 : Int32)) := rfl
theorem fA_13 : K.2.2[13]? = some ("frameRef", .boolean, (32 : Int32)) := rfl
theorem fA_14 : K.2.2[14]? = some ("frameDirty", .boolean, (32 : Int32)) := rfl
theorem fA_15 : K.2.2[15]? = some ("frameWords", .int, (128 : Int32)) := rfl
theorem fA_16 : K.2.2[16]? = some ("slotUsed", .boolean, (64 : Int32)) := rfl
theorem fA_17 : K.2.2[17]? = some ("swapWords", .int, (256 : Int32)) := rfl
theorem cb_8 : (Int8.ofInt 8).toInt32 = (8 : Int32) := by decide
theorem cb_15 : (Int8.ofInt 15).toInt32 = (15 : Int32) := by decide
theorem cb_16 : (Int8.ofInt 16).toInt32 = (16 : Int32) := by decide
theorem cb_32 : (Int8.ofInt 32).toInt32 = (32 : Int32) := by decide
theorem cb_64 : (Int8.ofInt 64).toInt32 = (64 : Int32) := by decide
theorem ci_m1 : Int32.ofInt (-1) = (-1 : Int32) := by decide
theorem ci_0 : Int32.ofInt 0 = (0 : Int32) := by decide
theorem ci_1 : Int32.ofInt 1 = (1 : Int32) := by decide
theorem ci_2 : Int32.ofInt 2 = (2 : Int32) := by decide
theorem ci_3 : Int32.ofInt 3 = (3 : Int32) := by decide
theorem ci_4 : Int32.ofInt 4 = (4 : Int32) := by decide
theorem cs_128 : (Int16.ofInt 128).toInt32 = (128 : Int32) := by decide
theorem cs_256 : (Int16.ofInt 256).toInt32 = (256 : Int32) := by decide
def B2 : Bdy := ((⟨"WsClockPager", "clamp", "(III)I"⟩ : MethodName), prog_1_method_16_code, 4, (some .int), ({ frames := 0, cells := 0, slots := 0, locals := 0 } : Room))
theorem d2_0 : DAt B2 0 (.iload_n 1) 1 1 := ⟨by decide +kernel, rfl⟩
theorem d2_1 : DAt B2 1 (.iload_n 2) 1 2 := ⟨by decide +kernel, rfl⟩
theorem d2_2 : DAt B2 2 (.if_icmp .ge 5) 3 5 := ⟨by decide +kernel, rfl⟩
theorem d2_5 : DAt B2 5 (.iload_n 2) 1 6 := ⟨by decide +kernel, rfl⟩
theorem d2_6 : DAt B2 6 (.ireturn) 1 7 := ⟨by decide +kernel, rfl⟩
theorem d2_7 : DAt B2 7 (.iload_n 1) 1 8 := ⟨by decide +kernel, rfl⟩
theorem d2_8 : DAt B2 8 (.iload_n 3) 1 9 := ⟨by decide +kernel, rfl⟩
theorem d2_9 : DAt B2 9 (.if_icmp .le 5) 3 12 := ⟨by decide +kernel, rfl⟩
theorem d2_12 : DAt B2 12 (.iload_n 3) 1 13 := ⟨by decide +kernel, rfl⟩
theorem d2_13 : DAt B2 13 (.ireturn) 1 14 := ⟨by decide +kernel, rfl⟩
theorem d2_14 : DAt B2 14 (.iload_n 1) 1 15 := ⟨by decide +kernel, rfl⟩
theorem d2_15 : DAt B2 15 (.ireturn) 1 16 := ⟨by decide +kernel, rfl⟩
def B1 : Bdy := ((⟨"WsClockPager", "<init>", "(IIII)V"⟩ : MethodName), prog_1_method_1_code, 6, none, ({ frames := 1, cells := 18, slots := 952, locals := 16 } : Room))
theorem d1_0 : DAt B1 0 (.aload_n 0) 1 1 := ⟨by decide +kernel, rfl⟩
theorem d1_1 : DAt B1 1 (.invokespecial 1) 3 4 := ⟨by decide +kernel, rfl⟩
theorem d1_4 : DAt B1 4 (.aload_n 0) 1 5 := ⟨by decide +kernel, rfl⟩
theorem d1_5 : DAt B1 5 (.iconst 4) 1 6 := ⟨by decide +kernel, rfl⟩
theorem d1_6 : DAt B1 6 (.newarray .boolean) 2 8 := ⟨by decide +kernel, rfl⟩
theorem d1_8 : DAt B1 8 (.putfield 7) 3 11 := ⟨by decide +kernel, rfl⟩
theorem d1_11 : DAt B1 11 (.aload_n 0) 1 12 := ⟨by decide +kernel, rfl⟩
theorem d1_12 : DAt B1 12 (.iconst 4) 1 13 := ⟨by decide +kernel, rfl⟩
theorem d1_13 : DAt B1 13 (.newarray .int) 2 15 := ⟨by decide +kernel, rfl⟩
theorem d1_15 : DAt B1 15 (.putfield 13) 3 18 := ⟨by decide +kernel, rfl⟩
theorem d1_18 : DAt B1 18 (.aload_n 0) 1 19 := ⟨by decide +kernel, rfl⟩
theorem d1_19 : DAt B1 19 (.iconst 4) 1 20 := ⟨by decide +kernel, rfl⟩
theorem d1_20 : DAt B1 20 (.newarray .int) 2 22 := ⟨by decide +kernel, rfl⟩
theorem d1_22 : DAt B1 22 (.putfield 17) 3 25 := ⟨by decide +kernel, rfl⟩
theorem d1_25 : DAt B1 25 (.aload_n 0) 1 26 := ⟨by decide +kernel, rfl⟩
theorem d1_26 : DAt B1 26 (.iconst 4) 1 27 := ⟨by decide +kernel, rfl⟩
theorem d1_27 : DAt B1 27 (.newarray .int) 2 29 := ⟨by decide +kernel, rfl⟩
theorem d1_29 : DAt B1 29 (.putfield 20) 3 32 := ⟨by decide +kernel, rfl⟩
theorem d1_32 : DAt B1 32 (.aload_n 0) 1 33 := ⟨by decide +kernel, rfl⟩
theorem d1_33 : DAt B1 33 (.iconst 4) 1 34 := ⟨by decide +kernel, rfl⟩
theorem d1_34 : DAt B1 34 (.newarray .int) 2 36 := ⟨by decide +kernel, rfl⟩
theorem d1_36 : DAt B1 36 (.putfield 23) 3 39 := ⟨by decide +kernel, rfl⟩
theorem d1_39 : DAt B1 39 (.aload_n 0) 1 40 := ⟨by decide +kernel, rfl⟩
theorem d1_40 : DAt B1 40 (.iconst 4) 1 41 := ⟨by decide +kernel, rfl⟩
theorem d1_41 : DAt B1 41 (.newarray .int) 2 43 := ⟨by decide +kernel, rfl⟩
theorem d1_43 : DAt B1 43 (.putfield 26) 3 46 := ⟨by decide +kernel, rfl⟩
theorem d1_46 : DAt B1 46 (.aload_n 0) 1 47 := ⟨by decide +kernel, rfl⟩
theorem d1_47 : DAt B1 47 (.bipush 64) 2 49 := ⟨by decide +kernel, rfl⟩
theorem d1_49 : DAt B1 49 (.newarray .int) 2 51 := ⟨by decide +kernel, rfl⟩
theorem d1_51 : DAt B1 51 (.putfield 29) 3 54 := ⟨by decide +kernel, rfl⟩
theorem d1_54 : DAt B1 54 (.aload_n 0) 1 55 := ⟨by decide +kernel, rfl⟩
theorem d1_55 : DAt B1 55 (.bipush 64) 2 57 := ⟨by decide +kernel, rfl⟩
theorem d1_57 : DAt B1 57 (.newarray .int) 2 59 := ⟨by decide +kernel, rfl⟩
theorem d1_59 : DAt B1 59 (.putfield 32) 3 62 := ⟨by decide +kernel, rfl⟩
theorem d1_62 : DAt B1 62 (.aload_n 0) 1 63 := ⟨by decide +kernel, rfl⟩
theorem d1_63 : DAt B1 63 (.bipush 64) 2 65 := ⟨by decide +kernel, rfl⟩
theorem d1_65 : DAt B1 65 (.newarray .boolean) 2 67 := ⟨by decide +kernel, rfl⟩
theorem d1_67 : DAt B1 67 (.putfield 35) 3 70 := ⟨by decide +kernel, rfl⟩
theorem d1_70 : DAt B1 70 (.aload_n 0) 1 71 := ⟨by decide +kernel, rfl⟩
theorem d1_71 : DAt B1 71 (.bipush 64) 2 73 := ⟨by decide +kernel, rfl⟩
theorem d1_73 : DAt B1 73 (.newarray .int) 2 75 := ⟨by decide +kernel, rfl⟩
theorem d1_75 : DAt B1 75 (.putfield 38) 3 78 := ⟨by decide +kernel, rfl⟩
theorem d1_78 : DAt B1 78 (.aload_n 0) 1 79 := ⟨by decide +kernel, rfl⟩
theorem d1_79 : DAt B1 79 (.bipush 64) 2 81 := ⟨by decide +kernel, rfl⟩
theorem d1_81 : DAt B1 81 (.newarray .int) 2 83 := ⟨by decide +kernel, rfl⟩
theorem d1_83 : DAt B1 83 (.putfield 41) 3 86 := ⟨by decide +kernel, rfl⟩
theorem d1_86 : DAt B1 86 (.aload_n 0) 1 87 := ⟨by decide +kernel, rfl⟩
theorem d1_87 : DAt B1 87 (.bipush 64) 2 89 := ⟨by decide +kernel, rfl⟩
theorem d1_89 : DAt B1 89 (.newarray .int) 2 91 := ⟨by decide +kernel, rfl⟩
theorem d1_91 : DAt B1 91 (.putfield 44) 3 94 := ⟨by decide +kernel, rfl⟩
theorem d1_94 : DAt B1 94 (.aload_n 0) 1 95 := ⟨by decide +kernel, rfl⟩
theorem d1_95 : DAt B1 95 (.bipush 32) 2 97 := ⟨by decide +kernel, rfl⟩
theorem d1_97 : DAt B1 97 (.newarray .int) 2 99 := ⟨by decide +kernel, rfl⟩
theorem d1_99 : DAt B1 99 (.putfield 47) 3 102 := ⟨by decide +kernel, rfl⟩
theorem d1_102 : DAt B1 102 (.aload_n 0) 1 103 := ⟨by decide +kernel, rfl⟩
theorem d1_103 : DAt B1 103 (.bipush 32) 2 105 := ⟨by decide +kernel, rfl⟩
theorem d1_105 : DAt B1 105 (.newarray .boolean) 2 107 := ⟨by decide +kernel, rfl⟩
theorem d1_107 : DAt B1 107 (.putfield 50) 3 110 := ⟨by decide +kernel, rfl⟩
theorem d1_110 : DAt B1 110 (.aload_n 0) 1 111 := ⟨by decide +kernel, rfl⟩
theorem d1_111 : DAt B1 111 (.bipush 32) 2 113 := ⟨by decide +kernel, rfl⟩
theorem d1_113 : DAt B1 113 (.newarray .boolean) 2 115 := ⟨by decide +kernel, rfl⟩
theorem d1_115 : DAt B1 115 (.putfield 53) 3 118 := ⟨by decide +kernel, rfl⟩
theorem d1_118 : DAt B1 118 (.aload_n 0) 1 119 := ⟨by decide +kernel, rfl⟩
theorem d1_119 : DAt B1 119 (.sipush 128) 3 122 := ⟨by decide +kernel, rfl⟩
theorem d1_122 : DAt B1 122 (.newarray .int) 2 124 := ⟨by decide +kernel, rfl⟩
theorem d1_124 : DAt B1 124 (.putfield 56) 3 127 := ⟨by decide +kernel, rfl⟩
theorem d1_127 : DAt B1 127 (.aload_n 0) 1 128 := ⟨by decide +kernel, rfl⟩
theorem d1_128 : DAt B1 128 (.bipush 64) 2 130 := ⟨by decide +kernel, rfl⟩
theorem d1_130 : DAt B1 130 (.newarray .boolean) 2 132 := ⟨by decide +kernel, rfl⟩
theorem d1_132 : DAt B1 132 (.putfield 59) 3 135 := ⟨by decide +kernel, rfl⟩
theorem d1_135 : DAt B1 135 (.aload_n 0) 1 136 := ⟨by decide +kernel, rfl⟩
theorem d1_136 : DAt B1 136 (.sipush 256) 3 139 := ⟨by decide +kernel, rfl⟩
theorem d1_139 : DAt B1 139 (.newarray .int) 2 141 := ⟨by decide +kernel, rfl⟩
theorem d1_141 : DAt B1 141 (.putfield 62) 3 144 := ⟨by decide +kernel, rfl⟩
theorem d1_144 : DAt B1 144 (.aload_n 0) 1 145 := ⟨by decide +kernel, rfl⟩
theorem d1_145 : DAt B1 145 (.aload_n 0) 1 146 := ⟨by decide +kernel, rfl⟩
theorem d1_146 : DAt B1 146 (.iload_n 1) 1 147 := ⟨by decide +kernel, rfl⟩
theorem d1_147 : DAt B1 147 (.iconst 1) 1 148 := ⟨by decide +kernel, rfl⟩
theorem d1_148 : DAt B1 148 (.iconst 4) 1 149 := ⟨by decide +kernel, rfl⟩
theorem d1_149 : DAt B1 149 (.invokevirtual 65) 3 152 := ⟨by decide +kernel, rfl⟩
theorem d1_152 : DAt B1 152 (.putfield 69) 3 155 := ⟨by decide +kernel, rfl⟩
theorem d1_155 : DAt B1 155 (.aload_n 0) 1 156 := ⟨by decide +kernel, rfl⟩
theorem d1_156 : DAt B1 156 (.aload_n 0) 1 157 := ⟨by decide +kernel, rfl⟩
theorem d1_157 : DAt B1 157 (.iload_n 2) 1 158 := ⟨by decide +kernel, rfl⟩
theorem d1_158 : DAt B1 158 (.iconst 4) 1 159 := ⟨by decide +kernel, rfl⟩
theorem d1_159 : DAt B1 159 (.bipush 16) 2 161 := ⟨by decide +kernel, rfl⟩
theorem d1_161 : DAt B1 161 (.invokevirtual 65) 3 164 := ⟨by decide +kernel, rfl⟩
theorem d1_164 : DAt B1 164 (.putfield 73) 3 167 := ⟨by decide +kernel, rfl⟩
theorem d1_167 : DAt B1 167 (.aload_n 0) 1 168 := ⟨by decide +kernel, rfl⟩
theorem d1_168 : DAt B1 168 (.aload_n 0) 1 169 := ⟨by decide +kernel, rfl⟩
theorem d1_169 : DAt B1 169 (.iload_n 3) 1 170 := ⟨by decide +kernel, rfl⟩
theorem d1_170 : DAt B1 170 (.iconst 4) 1 171 := ⟨by decide +kernel, rfl⟩
theorem d1_171 : DAt B1 171 (.bipush 32) 2 173 := ⟨by decide +kernel, rfl⟩
theorem d1_173 : DAt B1 173 (.invokevirtual 65) 3 176 := ⟨by decide +kernel, rfl⟩
theorem d1_176 : DAt B1 176 (.putfield 76) 3 179 := ⟨by decide +kernel, rfl⟩
theorem d1_179 : DAt B1 179 (.aload_n 0) 1 180 := ⟨by decide +kernel, rfl⟩
theorem d1_180 : DAt B1 180 (.aload_n 0) 1 181 := ⟨by decide +kernel, rfl⟩
theorem d1_181 : DAt B1 181 (.iload 4) 2 183 := ⟨by decide +kernel, rfl⟩
theorem d1_183 : DAt B1 183 (.iconst 1) 1 184 := ⟨by decide +kernel, rfl⟩
theorem d1_184 : DAt B1 184 (.bipush 16) 2 186 := ⟨by decide +kernel, rfl⟩
theorem d1_186 : DAt B1 186 (.invokevirtual 65) 3 189 := ⟨by decide +kernel, rfl⟩
theorem d1_189 : DAt B1 189 (.putfield 79) 3 192 := ⟨by decide +kernel, rfl⟩
theorem d1_192 : DAt B1 192 (.aload_n 0) 1 193 := ⟨by decide +kernel, rfl⟩
theorem d1_193 : DAt B1 193 (.iconst 0) 1 194 := ⟨by decide +kernel, rfl⟩
theorem d1_194 : DAt B1 194 (.putfield 82) 3 197 := ⟨by decide +kernel, rfl⟩
theorem d1_197 : DAt B1 197 (.aload_n 0) 1 198 := ⟨by decide +kernel, rfl⟩
theorem d1_198 : DAt B1 198 (.iconst 0) 1 199 := ⟨by decide +kernel, rfl⟩
theorem d1_199 : DAt B1 199 (.putfield 85) 3 202 := ⟨by decide +kernel, rfl⟩
theorem d1_202 : DAt B1 202 (.aload_n 0) 1 203 := ⟨by decide +kernel, rfl⟩
theorem d1_203 : DAt B1 203 (.iconst 0) 1 204 := ⟨by decide +kernel, rfl⟩
theorem d1_204 : DAt B1 204 (.putfield 88) 3 207 := ⟨by decide +kernel, rfl⟩
theorem d1_207 : DAt B1 207 (.aload_n 0) 1 208 := ⟨by decide +kernel, rfl⟩
theorem d1_208 : DAt B1 208 (.iconst 0) 1 209 := ⟨by decide +kernel, rfl⟩
theorem d1_209 : DAt B1 209 (.putfield 91) 3 212 := ⟨by decide +kernel, rfl⟩
theorem d1_212 : DAt B1 212 (.iconst 0) 1 213 := ⟨by decide +kernel, rfl⟩
theorem d1_213 : DAt B1 213 (.istore 5) 2 215 := ⟨by decide +kernel, rfl⟩
theorem d1_215 : DAt B1 215 (.iload 5) 2 217 := ⟨by decide +kernel, rfl⟩
theorem d1_217 : DAt B1 217 (.bipush 64) 2 219 := ⟨by decide +kernel, rfl⟩
theorem d1_219 : DAt B1 219 (.if_icmp .ge 25) 3 222 := ⟨by decide +kernel, rfl⟩
theorem d1_222 : DAt B1 222 (.aload_n 0) 1 223 := ⟨by decide +kernel, rfl⟩
theorem d1_223 : DAt B1 223 (.getfield 38) 3 226 := ⟨by decide +kernel, rfl⟩
theorem d1_226 : DAt B1 226 (.iload 5) 2 228 := ⟨by decide +kernel, rfl⟩
theorem d1_228 : DAt B1 228 (.iconst (-1)) 1 229 := ⟨by decide +kernel, rfl⟩
theorem d1_229 : DAt B1 229 (.iastore) 1 230 := ⟨by decide +kernel, rfl⟩
theorem d1_230 : DAt B1 230 (.aload_n 0) 1 231 := ⟨by decide +kernel, rfl⟩
theorem d1_231 : DAt B1 231 (.getfield 41) 3 234 := ⟨by decide +kernel, rfl⟩
theorem d1_234 : DAt B1 234 (.iload 5) 2 236 := ⟨by decide +kernel, rfl⟩
theorem d1_236 : DAt B1 236 (.iconst (-1)) 1 237 := ⟨by decide +kernel, rfl⟩
theorem d1_237 : DAt B1 237 (.iastore) 1 238 := ⟨by decide +kernel, rfl⟩
theorem d1_238 : DAt B1 238 (.iinc 5 1) 3 241 := ⟨by decide +kernel, rfl⟩
theorem d1_241 : DAt B1 241 (.goto (-26)) 3 244 := ⟨by decide +kernel, rfl⟩
theorem d1_244 : DAt B1 244 (.iconst 0) 1 245 := ⟨by decide +kernel, rfl⟩
theorem d1_245 : DAt B1 245 (.istore 5) 2 247 := ⟨by decide +kernel, rfl⟩
theorem d1_247 : DAt B1 247 (.iload 5) 2 249 := ⟨by decide +kernel, rfl⟩
theorem d1_249 : DAt B1 249 (.bipush 32) 2 251 := ⟨by decide +kernel, rfl⟩
theorem d1_251 : DAt B1 251 (.if_icmp .ge 17) 3 254 := ⟨by decide +kernel, rfl⟩
theorem d1_254 : DAt B1 254 (.aload_n 0) 1 255 := ⟨by decide +kernel, rfl⟩
theorem d1_255 : DAt B1 255 (.getfield 47) 3 258 := ⟨by decide +kernel, rfl⟩
theorem d1_258 : DAt B1 258 (.iload 5) 2 260 := ⟨by decide +kernel, rfl⟩
theorem d1_260 : DAt B1 260 (.iconst (-1)) 1 261 := ⟨by decide +kernel, rfl⟩
theorem d1_261 : DAt B1 261 (.iastore) 1 262 := ⟨by decide +kernel, rfl⟩
theorem d1_262 : DAt B1 262 (.iinc 5 1) 3 265 := ⟨by decide +kernel, rfl⟩
theorem d1_265 : DAt B1 265 (.goto (-18)) 3 268 := ⟨by decide +kernel, rfl⟩
theorem d1_268 : DAt B1 268 (.return_) 1 269 := ⟨by decide +kernel, rfl⟩
def B5 : Bdy := ((⟨"WsClockPager", "validPid", "(I)Z"⟩ : MethodName), prog_1_method_17_code, 2, (some .boolean), ({ frames := 0, cells := 0, slots := 0, locals := 0 } : Room))
theorem d5_0 : DAt B5 0 (.iload_n 1) 1 1 := ⟨by decide +kernel, rfl⟩
theorem d5_1 : DAt B5 1 (.ifCond .lt 15) 3 4 := ⟨by decide +kernel, rfl⟩
theorem d5_4 : DAt B5 4 (.iload_n 1) 1 5 := ⟨by decide +kernel, rfl⟩
theorem d5_5 : DAt B5 5 (.aload_n 0) 1 6 := ⟨by decide +kernel, rfl⟩
theorem d5_6 : DAt B5 6 (.getfield 69) 3 9 := ⟨by decide +kernel, rfl⟩
theorem d5_9 : DAt B5 9 (.if_icmp .ge 7) 3 12 := ⟨by decide +kernel, rfl⟩
theorem d5_12 : DAt B5 12 (.iconst 1) 1 13 := ⟨by decide +kernel, rfl⟩
theorem d5_13 : DAt B5 13 (.goto 4) 3 16 := ⟨by decide +kernel, rfl⟩
theorem d5_16 : DAt B5 16 (.iconst 0) 1 17 := ⟨by decide +kernel, rfl⟩
theorem d5_17 : DAt B5 17 (.ireturn) 1 18 := ⟨by decide +kernel, rfl⟩
def B4 : Bdy := ((⟨"WsClockPager", "check", "(II)I"⟩ : MethodName), prog_1_method_18_code, 3, (some .int), ({ frames := 1, cells := 0, slots := 0, locals := 13 } : Room))
theorem d4_0 : DAt B4 0 (.aload_n 0) 1 1 := ⟨by decide +kernel, rfl⟩
theorem d4_1 : DAt B4 1 (.iload_n 1) 1 2 := ⟨by decide +kernel, rfl⟩
theorem d4_2 : DAt B4 2 (.invokevirtual 111) 3 5 := ⟨by decide +kernel, rfl⟩
theorem d4_5 : DAt B4 5 (.ifCond .ne 5) 3 8 := ⟨by decide +kernel, rfl⟩
theorem d4_8 : DAt B4 8 (.iconst 1) 1 9 := ⟨by decide +kernel, rfl⟩
theorem d4_9 : DAt B4 9 (.ireturn) 1 10 := ⟨by decide +kernel, rfl⟩
theorem d4_10 : DAt B4 10 (.iload_n 2) 1 11 := ⟨by decide +kernel, rfl⟩
theorem d4_11 : DAt B4 11 (.ifCond .lt 13) 3 14 := ⟨by decide +kernel, rfl⟩
theorem d4_14 : DAt B4 14 (.iload_n 2) 1 15 := ⟨by decide +kernel, rfl⟩
theorem d4_15 : DAt B4 15 (.aload_n 0) 1 16 := ⟨by decide +kernel, rfl⟩
theorem d4_16 : DAt B4 16 (.getfield 73) 3 19 := ⟨by decide +kernel, rfl⟩
theorem d4_19 : DAt B4 19 (.iconst 4) 1 20 := ⟨by decide +kernel, rfl⟩
theorem d4_20 : DAt B4 20 (.imul) 1 21 := ⟨by decide +kernel, rfl⟩
theorem d4_21 : DAt B4 21 (.if_icmp .lt 5) 3 24 := ⟨by decide +kernel, rfl⟩
theorem d4_24 : DAt B4 24 (.iconst 2) 1 25 := ⟨by decide +kernel, rfl⟩
theorem d4_25 : DAt B4 25 (.ireturn) 1 26 := ⟨by decide +kernel, rfl⟩
theorem d4_26 : DAt B4 26 (.aload_n 0) 1 27 := ⟨by decide +kernel, rfl⟩
theorem d4_27 : DAt B4 27 (.getfield 7) 3 30 := ⟨by decide +kernel, rfl⟩
theorem d4_30 : DAt B4 30 (.iload_n 1) 1 31 := ⟨by decide +kernel, rfl⟩
theorem d4_31 : DAt B4 31 (.baload) 1 32 := ⟨by decide +kernel, rfl⟩
theorem d4_32 : DAt B4 32 (.ifCond .eq 5) 3 35 := ⟨by decide +kernel, rfl⟩
theorem d4_35 : DAt B4 35 (.iconst 3) 1 36 := ⟨by decide +kernel, rfl⟩
theorem d4_36 : DAt B4 36 (.ireturn) 1 37 := ⟨by decide +kernel, rfl⟩
theorem d4_37 : DAt B4 37 (.iconst 0) 1 38 := ⟨by decide +kernel, rfl⟩
theorem d4_38 : DAt B4 38 (.ireturn) 1 39 := ⟨by decide +kernel, rfl⟩
def B7 : Bdy := ((⟨"WsClockPager", "findFreeFrame", "()I"⟩ : MethodName), prog_1_method_26_code, 2, (some .int), ({ frames := 0, cells := 0, slots := 0, locals := 0 } : Room))
theorem d7_0 : DAt B7 0 (.iconst 0) 1 1 := ⟨by decide +kernel, rfl⟩
theorem d7_1 : DAt B7 1 (.istore_n 1) 1 2 := ⟨by decide +kernel, rfl⟩
theorem d7_2 : DAt B7 2 (.iload_n 1) 1 3 := ⟨by decide +kernel, rfl⟩
theorem d7_3 : DAt B7 3 (.aload_n 0) 1 4 := ⟨by decide +kernel, rfl⟩
theorem d7_4 : DAt B7 4 (.getfield 76) 3 7 := ⟨by decide +kernel, rfl⟩
theorem d7_7 : DAt B7 7 (.if_icmp .ge 20) 3 10 := ⟨by decide +kernel, rfl⟩
theorem d7_10 : DAt B7 10 (.aload_n 0) 1 11 := ⟨by decide +kernel, rfl⟩
theorem d7_11 : DAt B7 11 (.getfield 47) 3 14 := ⟨by decide +kernel, rfl⟩
theorem d7_14 : DAt B7 14 (.iload_n 1) 1 15 := ⟨by decide +kernel, rfl⟩
theorem d7_15 : DAt B7 15 (.iaload) 1 16 := ⟨by decide +kernel, rfl⟩
theorem d7_16 : DAt B7 16 (.ifCond .ge 5) 3 19 := ⟨by decide +kernel, rfl⟩
theorem d7_19 : DAt B7 19 (.iload_n 1) 1 20 := ⟨by decide +kernel, rfl⟩
theorem d7_20 : DAt B7 20 (.ireturn) 1 21 := ⟨by decide +kernel, rfl⟩
theorem d7_21 : DAt B7 21 (.iinc 1 1) 3 24 := ⟨by decide +kernel, rfl⟩
theorem d7_24 : DAt B7 24 (.goto (-22)) 3 27 := ⟨by decide +kernel, rfl⟩
theorem d7_27 : DAt B7 27 (.iconst (-1)) 1 28 := ⟨by decide +kernel, rfl⟩
theorem d7_28 : DAt B7 28 (.ireturn) 1 29 := ⟨by decide +kernel, rfl⟩
def B16 : Bdy := ((⟨"WsClockPager", "allocSlot", "()I"⟩ : MethodName), prog_1_method_31_code, 3, (some .int), ({ frames := 0, cells := 0, slots := 0, locals := 0 } : Room))
theorem d16_0 : DAt B16 0 (.aload_n 0) 1 1 := ⟨by decide +kernel, rfl⟩
theorem d16_1 : DAt B16 1 (.getfield 69) 3 4 := ⟨by decide +kernel, rfl⟩
theorem d16_4 : DAt B16 4 (.aload_n 0) 1 5 := ⟨by decide +kernel, rfl⟩
theorem d16_5 : DAt B16 5 (.getfield 73) 3 8 := ⟨by decide +kernel, rfl⟩
theorem d16_8 : DAt B16 8 (.imul) 1 9 := ⟨by decide +kernel, rfl⟩
theorem d16_9 : DAt B16 9 (.istore_n 1) 1 10 := ⟨by decide +kernel, rfl⟩
theorem d16_10 : DAt B16 10 (.iconst 0) 1 11 := ⟨by decide +kernel, rfl⟩
theorem d16_11 : DAt B16 11 (.istore_n 2) 1 12 := ⟨by decide +kernel, rfl⟩
theorem d16_12 : DAt B16 12 (.iload_n 2) 1 13 := ⟨by decide +kernel, rfl⟩
theorem d16_13 : DAt B16 13 (.iload_n 1) 1 14 := ⟨by decide +kernel, rfl⟩
theorem d16_14 : DAt B16 14 (.if_icmp .ge 20) 3 17 := ⟨by decide +kernel, rfl⟩
theorem d16_17 : DAt B16 17 (.aload_n 0) 1 18 := ⟨by decide +kernel, rfl⟩
theorem d16_18 : DAt B16 18 (.getfield 59) 3 21 := ⟨by decide +kernel, rfl⟩
theorem d16_21 : DAt B16 21 (.iload_n 2) 1 22 := ⟨by decide +kernel, rfl⟩
theorem d16_22 : DAt B16 22 (.baload) 1 23 := ⟨by decide +kernel, rfl⟩
theorem d16_23 : DAt B16 23 (.ifCond .ne 5) 3 26 := ⟨by decide +kernel, rfl⟩
theorem d16_26 : DAt B16 26 (.iload_n 2) 1 27 := ⟨by decide +kernel, rfl⟩
theorem d16_27 : DAt B16 27 (.ireturn) 1 28 := ⟨by decide +kernel, rfl⟩
theorem d16_28 : DAt B16 28 (.iinc 2 1) 3 31 := ⟨by decide +kernel, rfl⟩
theorem d16_31 : DAt B16 31 (.goto (-19)) 3 34 := ⟨by decide +kernel, rfl⟩
theorem d16_34 : DAt B16 34 (.iconst (-1)) 1 35 := ⟨by decide +kernel, rfl⟩
theorem d16_35 : DAt B16 35 (.ireturn) 1 36 := ⟨by decide +kernel, rfl⟩
def B15 : Bdy := ((⟨"WsClockPager", "writeBack", "(I)V"⟩ : MethodName), prog_1_method_30_code, 5, none, ({ frames := 1, cells := 0, slots := 0, locals := 14 } : Room))
theorem d15_0 : DAt B15 0 (.aload_n 0) 1 1 := ⟨by decide +kernel, rfl⟩
theorem d15_1 : DAt B15 1 (.getfield 47) 3 4 := ⟨by decide +kernel, rfl⟩
theorem d15_4 : DAt B15 4 (.iload_n 1) 1 5 := ⟨by decide +kernel, rfl⟩
theorem d15_5 : DAt B15 5 (.iaload) 1 6 := ⟨by decide +kernel, rfl⟩
theorem d15_6 : DAt B15 6 (.istore_n 2) 1 7 := ⟨by decide +kernel, rfl⟩
theorem d15_7 : DAt B15 7 (.iload_n 2) 1 8 := ⟨by decide +kernel, rfl⟩
theorem d15_8 : DAt B15 8 (.ifCond .ge 4) 3 11 := ⟨by decide +kernel, rfl⟩
theorem d15_11 : DAt B15 11 (.return_) 1 12 := ⟨by decide +kernel, rfl⟩
theorem d15_12 : DAt B15 12 (.aload_n 0) 1 13 := ⟨by decide +kernel, rfl⟩
theorem d15_13 : DAt B15 13 (.getfield 41) 3 16 := ⟨by decide +kernel, rfl⟩
theorem d15_16 : DAt B15 16 (.iload_n 2) 1 17 := ⟨by decide +kernel, rfl⟩
theorem d15_17 : DAt B15 17 (.iaload) 1 18 := ⟨by decide +kernel, rfl⟩
theorem d15_18 : DAt B15 18 (.istore_n 3) 1 19 := ⟨by decide +kernel, rfl⟩
theorem d15_19 : DAt B15 19 (.iload_n 3) 1 20 := ⟨by decide +kernel, rfl⟩
theorem d15_20 : DAt B15 20 (.ifCond .ge 27) 3 23 := ⟨by decide +kernel, rfl⟩
theorem d15_23 : DAt B15 23 (.aload_n 0) 1 24 := ⟨by decide +kernel, rfl⟩
theorem d15_24 : DAt B15 24 (.invokevirtual 147) 3 27 := ⟨by decide +kernel, rfl⟩
theorem d15_27 : DAt B15 27 (.istore_n 3) 1 28 := ⟨by decide +kernel, rfl⟩
theorem d15_28 : DAt B15 28 (.iload_n 3) 1 29 := ⟨by decide +kernel, rfl⟩
theorem d15_29 : DAt B15 29 (.ifCond .ge 4) 3 32 := ⟨by decide +kernel, rfl⟩
theorem d15_32 : DAt B15 32 (.return_) 1 33 := ⟨by decide +kernel, rfl⟩
theorem d15_33 : DAt B15 33 (.aload_n 0) 1 34 := ⟨by decide +kernel, rfl⟩
theorem d15_34 : DAt B15 34 (.getfield 59) 3 37 := ⟨by decide +kernel, rfl⟩
theorem d15_37 : DAt B15 37 (.iload_n 3) 1 38 := ⟨by decide +kernel, rfl⟩
theorem d15_38 : DAt B15 38 (.iconst 1) 1 39 := ⟨by decide +kernel, rfl⟩
theorem d15_39 : DAt B15 39 (.bastore) 1 40 := ⟨by decide +kernel, rfl⟩
theorem d15_40 : DAt B15 40 (.aload_n 0) 1 41 := ⟨by decide +kernel, rfl⟩
theorem d15_41 : DAt B15 41 (.getfield 41) 3 44 := ⟨by decide +kernel, rfl⟩
theorem d15_44 : DAt B15 44 (.iload_n 2) 1 45 := ⟨by decide +kernel, rfl⟩
theorem d15_45 : DAt B15 45 (.iload_n 3) 1 46 := ⟨by decide +kernel, rfl⟩
theorem d15_46 : DAt B15 46 (.iastore) 1 47 := ⟨by decide +kernel, rfl⟩
theorem d15_47 : DAt B15 47 (.iconst 0) 1 48 := ⟨by decide +kernel, rfl⟩
theorem d15_48 : DAt B15 48 (.istore 4) 2 50 := ⟨by decide +kernel, rfl⟩
theorem d15_50 : DAt B15 50 (.iload 4) 2 52 := ⟨by decide +kernel, rfl⟩
theorem d15_52 : DAt B15 52 (.iconst 4) 1 53 := ⟨by decide +kernel, rfl⟩
theorem d15_53 : DAt B15 53 (.if_icmp .ge 31) 3 56 := ⟨by decide +kernel, rfl⟩
theorem d15_56 : DAt B15 56 (.aload_n 0) 1 57 := ⟨by decide +kernel, rfl⟩
theorem d15_57 : DAt B15 57 (.getfield 62) 3 60 := ⟨by decide +kernel, rfl⟩
theorem d15_60 : DAt B15 60 (.iload_n 3) 1 61 := ⟨by decide +kernel, rfl⟩
theorem d15_61 : DAt B15 61 (.iconst 4) 1 62 := ⟨by decide +kernel, rfl⟩
theorem d15_62 : DAt B15 62 (.imul) 1 63 := ⟨by decide +kernel, rfl⟩
theorem d15_63 : DAt B15 63 (.iload 4) 2 65 := ⟨by decide +kernel, rfl⟩
theorem d15_65 : DAt B15 65 (.iadd) 1 66 := ⟨by decide +kernel, rfl⟩
theorem d15_66 : DAt B15 66 (.aload_n 0) 1 67 := ⟨by decide +kernel, rfl⟩
theorem d15_67 : DAt B15 67 (.getfield 56) 3 70 := ⟨by decide +kernel, rfl⟩
theorem d15_70 : DAt B15 70 (.iload_n 1) 1 71 := ⟨by decide +kernel, rfl⟩
theorem d15_71 : DAt B15 71 (.iconst 4) 1 72 := ⟨by decide +kernel, rfl⟩
theorem d15_72 : DAt B15 72 (.imul) 1 73 := ⟨by decide +kernel, rfl⟩
theorem d15_73 : DAt B15 73 (.iload 4) 2 75 := ⟨by decide +kernel, rfl⟩
theorem d15_75 : DAt B15 75 (.iadd) 1 76 := ⟨by decide +kernel, rfl⟩
theorem d15_76 : DAt B15 76 (.iaload) 1 77 := ⟨by decide +kernel, rfl⟩
theorem d15_77 : DAt B15 77 (.iastore) 1 78 := ⟨by decide +kernel, rfl⟩
theorem d15_78 : DAt B15 78 (.iinc 4 1) 3 81 := ⟨by decide +kernel, rfl⟩
theorem d15_81 : DAt B15 81 (.goto (-31)) 3 84 := ⟨by decide +kernel, rfl⟩
theorem d15_84 : DAt B15 84 (.aload_n 0) 1 85 := ⟨by decide +kernel, rfl⟩
theorem d15_85 : DAt B15 85 (.getfield 53) 3 88 := ⟨by decide +kernel, rfl⟩
theorem d15_88 : DAt B15 88 (.iload_n 1) 1 89 := ⟨by decide +kernel, rfl⟩
theorem d15_89 : DAt B15 89 (.iconst 0) 1 90 := ⟨by decide +kernel, rfl⟩
theorem d15_90 : DAt B15 90 (.bastore) 1 91 := ⟨by decide +kernel, rfl⟩
theorem d15_91 : DAt B15 91 (.return_) 1 92 := ⟨by decide +kernel, rfl⟩
def B13 : Bdy := ((⟨"WsClockPager", "chooseVictim", "()I"⟩ : MethodName), prog_1_method_28_code, 7, (some .int), ({ frames := 2, cells := 0, slots := 0, locals := 30 } : Room))
theorem d13_0 : DAt B13 0 (.iconst (-1)) 1 1 := ⟨by decide +kernel, rfl⟩
theorem d13_1 : DAt B13 1 (.istore_n 1) 1 2 := ⟨by decide +kernel, rfl⟩
theorem d13_2 : DAt B13 2 (.iconst 0) 1 3 := ⟨by decide +kernel, rfl⟩
theorem d13_3 : DAt B13 3 (.istore_n 2) 1 4 := ⟨by decide +kernel, rfl⟩
theorem d13_4 : DAt B13 4 (.iload_n 2) 1 5 := ⟨by decide +kernel, rfl⟩
theorem d13_5 : DAt B13 5 (.iconst 2) 1 6 := ⟨by decide +kernel, rfl⟩
theorem d13_6 : DAt B13 6 (.aload_n 0) 1 7 := ⟨by decide +kernel, rfl⟩
theorem d13_7 : DAt B13 7 (.getfield 76) 3 10 := ⟨by decide +kernel, rfl⟩
theorem d13_10 : DAt B13 10 (.imul) 1 11 := ⟨by decide +kernel, rfl⟩
theorem d13_11 : DAt B13 11 (.if_icmp .ge 162) 3 14 := ⟨by decide +kernel, rfl⟩
theorem d13_14 : DAt B13 14 (.aload_n 0) 1 15 := ⟨by decide +kernel, rfl⟩
theorem d13_15 : DAt B13 15 (.getfield 91) 3 18 := ⟨by decide +kernel, rfl⟩
theorem d13_18 : DAt B13 18 (.istore_n 3) 1 19 := ⟨by decide +kernel, rfl⟩
theorem d13_19 : DAt B13 19 (.aload_n 0) 1 20 := ⟨by decide +kernel, rfl⟩
theorem d13_20 : DAt B13 20 (.aload_n 0) 1 21 := ⟨by decide +kernel, rfl⟩
theorem d13_21 : DAt B13 21 (.getfield 91) 3 24 := ⟨by decide +kernel, rfl⟩
theorem d13_24 : DAt B13 24 (.iconst 1) 1 25 := ⟨by decide +kernel, rfl⟩
theorem d13_25 : DAt B13 25 (.iadd) 1 26 := ⟨by decide +kernel, rfl⟩
theorem d13_26 : DAt B13 26 (.aload_n 0) 1 27 := ⟨by decide +kernel, rfl⟩
theorem d13_27 : DAt B13 27 (.getfield 76) 3 30 := ⟨by decide +kernel, rfl⟩
theorem d13_30 : DAt B13 30 (.irem) 1 31 := ⟨by decide +kernel, rfl⟩
theorem d13_31 : DAt B13 31 (.putfield 91) 3 34 := ⟨by decide +kernel, rfl⟩
theorem d13_34 : DAt B13 34 (.aload_n 0) 1 35 := ⟨by decide +kernel, rfl⟩
theorem d13_35 : DAt B13 35 (.getfield 47) 3 38 := ⟨by decide +kernel, rfl⟩
theorem d13_38 : DAt B13 38 (.iload_n 3) 1 39 := ⟨by decide +kernel, rfl⟩
theorem d13_39 : DAt B13 39 (.iaload) 1 40 := ⟨by decide +kernel, rfl⟩
theorem d13_40 : DAt B13 40 (.istore 4) 2 42 := ⟨by decide +kernel, rfl⟩
theorem d13_42 : DAt B13 42 (.iload 4) 2 44 := ⟨by decide +kernel, rfl⟩
theorem d13_44 : DAt B13 44 (.ifCond .ge 5) 3 47 := ⟨by decide +kernel, rfl⟩
theorem d13_47 : DAt B13 47 (.iload_n 3) 1 48 := ⟨by decide +kernel, rfl⟩
theorem d13_48 : DAt B13 48 (.ireturn) 1 49 := ⟨by decide +kernel, rfl⟩
theorem d13_49 : DAt B13 49 (.iload 4) 2 51 := ⟨by decide +kernel, rfl⟩
theorem d13_51 : DAt B13 51 (.bipush 16) 2 53 := ⟨by decide +kernel, rfl⟩
theorem d13_53 : DAt B13 53 (.idiv) 1 54 := ⟨by decide +kernel, rfl⟩
theorem d13_54 : DAt B13 54 (.istore 5) 2 56 := ⟨by decide +kernel, rfl⟩
theorem d13_56 : DAt B13 56 (.aload_n 0) 1 57 := ⟨by decide +kernel, rfl⟩
theorem d13_57 : DAt B13 57 (.getfield 50) 3 60 := ⟨by decide +kernel, rfl⟩
theorem d13_60 : DAt B13 60 (.iload_n 3) 1 61 := ⟨by decide +kernel, rfl⟩
theorem d13_61 : DAt B13 61 (.baload) 1 62 := ⟨by decide +kernel, rfl⟩
theorem d13_62 : DAt B13 62 (.ifCond .eq 27) 3 65 := ⟨by decide +kernel, rfl⟩
theorem d13_65 : DAt B13 65 (.aload_n 0) 1 66 := ⟨by decide +kernel, rfl⟩
theorem d13_66 : DAt B13 66 (.getfield 50) 3 69 := ⟨by decide +kernel, rfl⟩
theorem d13_69 : DAt B13 69 (.iload_n 3) 1 70 := ⟨by decide +kernel, rfl⟩
theorem d13_70 : DAt B13 70 (.iconst 0) 1 71 := ⟨by decide +kernel, rfl⟩
theorem d13_71 : DAt B13 71 (.bastore) 1 72 := ⟨by decide +kernel, rfl⟩
theorem d13_72 : DAt B13 72 (.aload_n 0) 1 73 := ⟨by decide +kernel, rfl⟩
theorem d13_73 : DAt B13 73 (.getfield 44) 3 76 := ⟨by decide +kernel, rfl⟩
theorem d13_76 : DAt B13 76 (.iload 4) 2 78 := ⟨by decide +kernel, rfl⟩
theorem d13_78 : DAt B13 78 (.aload_n 0) 1 79 := ⟨by decide +kernel, rfl⟩
theorem d13_79 : DAt B13 79 (.getfield 13) 3 82 := ⟨by decide +kernel, rfl⟩
theorem d13_82 : DAt B13 82 (.iload 5) 2 84 := ⟨by decide +kernel, rfl⟩
theorem d13_84 : DAt B13 84 (.iaload) 1 85 := ⟨by decide +kernel, rfl⟩
theorem d13_85 : DAt B13 85 (.iastore) 1 86 := ⟨by decide +kernel, rfl⟩
theorem d13_86 : DAt B13 86 (.goto 81) 3 89 := ⟨by decide +kernel, rfl⟩
theorem d13_89 : DAt B13 89 (.aload_n 0) 1 90 := ⟨by decide +kernel, rfl⟩
theorem d13_90 : DAt B13 90 (.getfield 7) 3 93 := ⟨by decide +kernel, rfl⟩
theorem d13_93 : DAt B13 93 (.iload 5) 2 95 := ⟨by decide +kernel, rfl⟩
theorem d13_95 : DAt B13 95 (.baload) 1 96 := ⟨by decide +kernel, rfl⟩
theorem d13_96 : DAt B13 96 (.ifCond .ne 25) 3 99 := ⟨by decide +kernel, rfl⟩
theorem d13_99 : DAt B13 99 (.aload_n 0) 1 100 := ⟨by decide +kernel, rfl⟩
theorem d13_100 : DAt B13 100 (.getfield 13) 3 103 := ⟨by decide +kernel, rfl⟩
theorem d13_103 : DAt B13 103 (.iload 5) 2 105 := ⟨by decide +kernel, rfl⟩
theorem d13_105 : DAt B13 105 (.iaload) 1 106 := ⟨by decide +kernel, rfl⟩
theorem d13_106 : DAt B13 106 (.aload_n 0) 1 107 := ⟨by decide +kernel, rfl⟩
theorem d13_107 : DAt B13 107 (.getfield 44) 3 110 := ⟨by decide +kernel, rfl⟩
theorem d13_110 : DAt B13 110 (.iload 4) 2 112 := ⟨by decide +kernel, rfl⟩
theorem d13_112 : DAt B13 112 (.iaload) 1 113 := ⟨by decide +kernel, rfl⟩
theorem d13_113 : DAt B13 113 (.isub) 1 114 := ⟨by decide +kernel, rfl⟩
theorem d13_114 : DAt B13 114 (.aload_n 0) 1 115 := ⟨by decide +kernel, rfl⟩
theorem d13_115 : DAt B13 115 (.getfield 79) 3 118 := ⟨by decide +kernel, rfl⟩
theorem d13_118 : DAt B13 118 (.if_icmp .lt 7) 3 121 := ⟨by decide +kernel, rfl⟩
theorem d13_121 : DAt B13 121 (.iconst 1) 1 122 := ⟨by decide +kernel, rfl⟩
theorem d13_122 : DAt B13 122 (.goto 4) 3 125 := ⟨by decide +kernel, rfl⟩
theorem d13_125 : DAt B13 125 (.iconst 0) 1 126 := ⟨by decide +kernel, rfl⟩
theorem d13_126 : DAt B13 126 (.istore 6) 2 128 := ⟨by decide +kernel, rfl⟩
theorem d13_128 : DAt B13 128 (.iload 6) 2 130 := ⟨by decide +kernel, rfl⟩
theorem d13_130 : DAt B13 130 (.ifCond .ne 21) 3 133 := ⟨by decide +kernel, rfl⟩
theorem d13_133 : DAt B13 133 (.iload_n 1) 1 134 := ⟨by decide +kernel, rfl⟩
theorem d13_134 : DAt B13 134 (.ifCond .ge 33) 3 137 := ⟨by decide +kernel, rfl⟩
theorem d13_137 : DAt B13 137 (.aload_n 0) 1 138 := ⟨by decide +kernel, rfl⟩
theorem d13_138 : DAt B13 138 (.getfield 53) 3 141 := ⟨by decide +kernel, rfl⟩
theorem d13_141 : DAt B13 141 (.iload_n 3) 1 142 := ⟨by decide +kernel, rfl⟩
theorem d13_142 : DAt B13 142 (.baload) 1 143 := ⟨by decide +kernel, rfl⟩
theorem d13_143 : DAt B13 143 (.ifCond .ne 24) 3 146 := ⟨by decide +kernel, rfl⟩
theorem d13_146 : DAt B13 146 (.iload_n 3) 1 147 := ⟨by decide +kernel, rfl⟩
theorem d13_147 : DAt B13 147 (.istore_n 1) 1 148 := ⟨by decide +kernel, rfl⟩
theorem d13_148 : DAt B13 148 (.goto 19) 3 151 := ⟨by decide +kernel, rfl⟩
theorem d13_151 : DAt B13 151 (.aload_n 0) 1 152 := ⟨by decide +kernel, rfl⟩
theorem d13_152 : DAt B13 152 (.getfield 53) 3 155 := ⟨by decide +kernel, rfl⟩
theorem d13_155 : DAt B13 155 (.iload_n 3) 1 156 := ⟨by decide +kernel, rfl⟩
theorem d13_156 : DAt B13 156 (.baload) 1 157 := ⟨by decide +kernel, rfl⟩
theorem d13_157 : DAt B13 157 (.ifCond .ne 5) 3 160 := ⟨by decide +kernel, rfl⟩
theorem d13_160 : DAt B13 160 (.iload_n 3) 1 161 := ⟨by decide +kernel, rfl⟩
theorem d13_161 : DAt B13 161 (.ireturn) 1 162 := ⟨by decide +kernel, rfl⟩
theorem d13_162 : DAt B13 162 (.aload_n 0) 1 163 := ⟨by decide +kernel, rfl⟩
theorem d13_163 : DAt B13 163 (.iload_n 3) 1 164 := ⟨by decide +kernel, rfl⟩
theorem d13_164 : DAt B13 164 (.invokevirtual 144) 3 167 := ⟨by decide +kernel, rfl⟩
theorem d13_167 : DAt B13 167 (.iinc 2 1) 3 170 := ⟨by decide +kernel, rfl⟩
theorem d13_170 : DAt B13 170 (.goto (-166)) 3 173 := ⟨by decide +kernel, rfl⟩
theorem d13_173 : DAt B13 173 (.iload_n 1) 1 174 := ⟨by decide +kernel, rfl⟩
theorem d13_174 : DAt B13 174 (.ifCond .lt 5) 3 177 := ⟨by decide +kernel, rfl⟩
theorem d13_177 : DAt B13 177 (.iload_n 1) 1 178 := ⟨by decide +kernel, rfl⟩
theorem d13_178 : DAt B13 178 (.ireturn) 1 179 := ⟨by decide +kernel, rfl⟩
theorem d13_179 : DAt B13 179 (.aload_n 0) 1 180 := ⟨by decide +kernel, rfl⟩
theorem d13_180 : DAt B13 180 (.getfield 91) 3 183 := ⟨by decide +kernel, rfl⟩
theorem d13_183 : DAt B13 183 (.istore_n 2) 1 184 := ⟨by decide +kernel, rfl⟩
theorem d13_184 : DAt B13 184 (.aload_n 0) 1 185 := ⟨by decide +kernel, rfl⟩
theorem d13_185 : DAt B13 185 (.aload_n 0) 1 186 := ⟨by decide +kernel, rfl⟩
theorem d13_186 : DAt B13 186 (.getfield 91) 3 189 := ⟨by decide +kernel, rfl⟩
theorem d13_189 : DAt B13 189 (.iconst 1) 1 190 := ⟨by decide +kernel, rfl⟩
theorem d13_190 : DAt B13 190 (.iadd) 1 191 := ⟨by decide +kernel, rfl⟩
theorem d13_191 : DAt B13 191 (.aload_n 0) 1 192 := ⟨by decide +kernel, rfl⟩
theorem d13_192 : DAt B13 192 (.getfield 76) 3 195 := ⟨by decide +kernel, rfl⟩
theorem d13_195 : DAt B13 195 (.irem) 1 196 := ⟨by decide +kernel, rfl⟩
theorem d13_196 : DAt B13 196 (.putfield 91) 3 199 := ⟨by decide +kernel, rfl⟩
theorem d13_199 : DAt B13 199 (.iload_n 2) 1 200 := ⟨by decide +kernel, rfl⟩
theorem d13_200 : DAt B13 200 (.ireturn) 1 201 := ⟨by decide +kernel, rfl⟩
def B14 : Bdy := ((⟨"WsClockPager", "evictFrame", "(I)V"⟩ : MethodName), prog_1_method_29_code, 3, none, ({ frames := 2, cells := 0, slots := 0, locals := 30 } : Room))
theorem d14_0 : DAt B14 0 (.aload_n 0) 1 1 := ⟨by decide +kernel, rfl⟩
theorem d14_1 : DAt B14 1 (.getfield 47) 3 4 := ⟨by decide +kernel, rfl⟩
theorem d14_4 : DAt B14 4 (.iload_n 1) 1 5 := ⟨by decide +kernel, rfl⟩
theorem d14_5 : DAt B14 5 (.iaload) 1 6 := ⟨by decide +kernel, rfl⟩
theorem d14_6 : DAt B14 6 (.istore_n 2) 1 7 := ⟨by decide +kernel, rfl⟩
theorem d14_7 : DAt B14 7 (.iload_n 2) 1 8 := ⟨by decide +kernel, rfl⟩
theorem d14_8 : DAt B14 8 (.ifCond .ge 4) 3 11 := ⟨by decide +kernel, rfl⟩
theorem d14_11 : DAt B14 11 (.return_) 1 12 := ⟨by decide +kernel, rfl⟩
theorem d14_12 : DAt B14 12 (.aload_n 0) 1 13 := ⟨by decide +kernel, rfl⟩
theorem d14_13 : DAt B14 13 (.getfield 53) 3 16 := ⟨by decide +kernel, rfl⟩
theorem d14_16 : DAt B14 16 (.iload_n 1) 1 17 := ⟨by decide +kernel, rfl⟩
theorem d14_17 : DAt B14 17 (.baload) 1 18 := ⟨by decide +kernel, rfl⟩
theorem d14_18 : DAt B14 18 (.ifCond .eq 8) 3 21 := ⟨by decide +kernel, rfl⟩
theorem d14_21 : DAt B14 21 (.aload_n 0) 1 22 := ⟨by decide +kernel, rfl⟩
theorem d14_22 : DAt B14 22 (.iload_n 1) 1 23 := ⟨by decide +kernel, rfl⟩
theorem d14_23 : DAt B14 23 (.invokevirtual 144) 3 26 := ⟨by decide +kernel, rfl⟩
theorem d14_26 : DAt B14 26 (.aload_n 0) 1 27 := ⟨by decide +kernel, rfl⟩
theorem d14_27 : DAt B14 27 (.getfield 38) 3 30 := ⟨by decide +kernel, rfl⟩
theorem d14_30 : DAt B14 30 (.iload_n 2) 1 31 := ⟨by decide +kernel, rfl⟩
theorem d14_31 : DAt B14 31 (.iconst (-1)) 1 32 := ⟨by decide +kernel, rfl⟩
theorem d14_32 : DAt B14 32 (.iastore) 1 33 := ⟨by decide +kernel, rfl⟩
theorem d14_33 : DAt B14 33 (.aload_n 0) 1 34 := ⟨by decide +kernel, rfl⟩
theorem d14_34 : DAt B14 34 (.getfield 47) 3 37 := ⟨by decide +kernel, rfl⟩
theorem d14_37 : DAt B14 37 (.iload_n 1) 1 38 := ⟨by decide +kernel, rfl⟩
theorem d14_38 : DAt B14 38 (.iconst (-1)) 1 39 := ⟨by decide +kernel, rfl⟩
theorem d14_39 : DAt B14 39 (.iastore) 1 40 := ⟨by decide +kernel, rfl⟩
theorem d14_40 : DAt B14 40 (.aload_n 0) 1 41 := ⟨by decide +kernel, rfl⟩
theorem d14_41 : DAt B14 41 (.getfield 50) 3 44 := ⟨by decide +kernel, rfl⟩
theorem d14_44 : DAt B14 44 (.iload_n 1) 1 45 := ⟨by decide +kernel, rfl⟩
theorem d14_45 : DAt B14 45 (.iconst 0) 1 46 := ⟨by decide +kernel, rfl⟩
theorem d14_46 : DAt B14 46 (.bastore) 1 47 := ⟨by decide +kernel, rfl⟩
theorem d14_47 : DAt B14 47 (.aload_n 0) 1 48 := ⟨by decide +kernel, rfl⟩
theorem d14_48 : DAt B14 48 (.getfield 53) 3 51 := ⟨by decide +kernel, rfl⟩
theorem d14_51 : DAt B14 51 (.iload_n 1) 1 52 := ⟨by decide +kernel, rfl⟩
theorem d14_52 : DAt B14 52 (.iconst 0) 1 53 := ⟨by decide +kernel, rfl⟩
theorem d14_53 : DAt B14 53 (.bastore) 1 54 := ⟨by decide +kernel, rfl⟩
theorem d14_54 : DAt B14 54 (.return_) 1 55 := ⟨by decide +kernel, rfl⟩
def B8 : Bdy := ((⟨"WsClockPager", "fillFrame", "(II)V"⟩ : MethodName), prog_1_method_27_code, 6, none, ({ frames := 0, cells := 0, slots := 0, locals := 0 } : Room))
theorem d8_0 : DAt B8 0 (.aload_n 0) 1 1 := ⟨by decide +kernel, rfl⟩
theorem d8_1 : DAt B8 1 (.getfield 41) 3 4 := ⟨by decide +kernel, rfl⟩
theorem d8_4 : DAt B8 4 (.iload_n 2) 1 5 := ⟨by decide +kernel, rfl⟩
theorem d8_5 : DAt B8 5 (.iaload) 1 6 := ⟨by decide +kernel, rfl⟩
theorem d8_6 : DAt B8 6 (.istore_n 3) 1 7 := ⟨by decide +kernel, rfl⟩
theorem d8_7 : DAt B8 7 (.iload_n 1) 1 8 := ⟨by decide +kernel, rfl⟩
theorem d8_8 : DAt B8 8 (.iconst 4) 1 9 := ⟨by decide +kernel, rfl⟩
theorem d8_9 : DAt B8 9 (.imul) 1 10 := ⟨by decide +kernel, rfl⟩
theorem d8_10 : DAt B8 10 (.istore 4) 2 12 := ⟨by decide +kernel, rfl⟩
theorem d8_12 : DAt B8 12 (.iconst 0) 1 13 := ⟨by decide +kernel, rfl⟩
theorem d8_13 : DAt B8 13 (.istore 5) 2 15 := ⟨by decide +kernel, rfl⟩
theorem d8_15 : DAt B8 15 (.iload 5) 2 17 := ⟨by decide +kernel, rfl⟩
theorem d8_17 : DAt B8 17 (.iconst 4) 1 18 := ⟨by decide +kernel, rfl⟩
theorem d8_18 : DAt B8 18 (.if_icmp .ge 48) 3 21 := ⟨by decide +kernel, rfl⟩
theorem d8_21 : DAt B8 21 (.iload_n 3) 1 22 := ⟨by decide +kernel, rfl⟩
theorem d8_22 : DAt B8 22 (.ifCond .lt 27) 3 25 := ⟨by decide +kernel, rfl⟩
theorem d8_25 : DAt B8 25 (.aload_n 0) 1 26 := ⟨by decide +kernel, rfl⟩
theorem d8_26 : DAt B8 26 (.getfield 56) 3 29 := ⟨by decide +kernel, rfl⟩
theorem d8_29 : DAt B8 29 (.iload 4) 2 31 := ⟨by decide +kernel, rfl⟩
theorem d8_31 : DAt B8 31 (.iload 5) 2 33 := ⟨by decide +kernel, rfl⟩
theorem d8_33 : DAt B8 33 (.iadd) 1 34 := ⟨by decide +kernel, rfl⟩
theorem d8_34 : DAt B8 34 (.aload_n 0) 1 35 := ⟨by decide +kernel, rfl⟩
theorem d8_35 : DAt B8 35 (.getfield 62) 3 38 := ⟨by decide +kernel, rfl⟩
theorem d8_38 : DAt B8 38 (.iload_n 3) 1 39 := ⟨by decide +kernel, rfl⟩
theorem d8_39 : DAt B8 39 (.iconst 4) 1 40 := ⟨by decide +kernel, rfl⟩
theorem d8_40 : DAt B8 40 (.imul) 1 41 := ⟨by decide +kernel, rfl⟩
theorem d8_41 : DAt B8 41 (.iload 5) 2 43 := ⟨by decide +kernel, rfl⟩
theorem d8_43 : DAt B8 43 (.iadd) 1 44 := ⟨by decide +kernel, rfl⟩
theorem d8_44 : DAt B8 44 (.iaload) 1 45 := ⟨by decide +kernel, rfl⟩
theorem d8_45 : DAt B8 45 (.iastore) 1 46 := ⟨by decide +kernel, rfl⟩
theorem d8_46 : DAt B8 46 (.goto 14) 3 49 := ⟨by decide +kernel, rfl⟩
theorem d8_49 : DAt B8 49 (.aload_n 0) 1 50 := ⟨by decide +kernel, rfl⟩
theorem d8_50 : DAt B8 50 (.getfield 56) 3 53 := ⟨by decide +kernel, rfl⟩
theorem d8_53 : DAt B8 53 (.iload 4) 2 55 := ⟨by decide +kernel, rfl⟩
theorem d8_55 : DAt B8 55 (.iload 5) 2 57 := ⟨by decide +kernel, rfl⟩
theorem d8_57 : DAt B8 57 (.iadd) 1 58 := ⟨by decide +kernel, rfl⟩
theorem d8_58 : DAt B8 58 (.iconst 0) 1 59 := ⟨by decide +kernel, rfl⟩
theorem d8_59 : DAt B8 59 (.iastore) 1 60 := ⟨by decide +kernel, rfl⟩
theorem d8_60 : DAt B8 60 (.iinc 5 1) 3 63 := ⟨by decide +kernel, rfl⟩
theorem d8_63 : DAt B8 63 (.goto (-48)) 3 66 := ⟨by decide +kernel, rfl⟩
theorem d8_66 : DAt B8 66 (.aload_n 0) 1 67 := ⟨by decide +kernel, rfl⟩
theorem d8_67 : DAt B8 67 (.getfield 47) 3 70 := ⟨by decide +kernel, rfl⟩
theorem d8_70 : DAt B8 70 (.iload_n 1) 1 71 := ⟨by decide +kernel, rfl⟩
theorem d8_71 : DAt B8 71 (.iload_n 2) 1 72 := ⟨by decide +kernel, rfl⟩
theorem d8_72 : DAt B8 72 (.iastore) 1 73 := ⟨by decide +kernel, rfl⟩
theorem d8_73 : DAt B8 73 (.aload_n 0) 1 74 := ⟨by decide +kernel, rfl⟩
theorem d8_74 : DAt B8 74 (.getfield 50) 3 77 := ⟨by decide +kernel, rfl⟩
theorem d8_77 : DAt B8 77 (.iload_n 1) 1 78 := ⟨by decide +kernel, rfl⟩
theorem d8_78 : DAt B8 78 (.iconst 0) 1 79 := ⟨by decide +kernel, rfl⟩
theorem d8_79 : DAt B8 79 (.bastore) 1 80 := ⟨by decide +kernel, rfl⟩
theorem d8_80 : DAt B8 80 (.aload_n 0) 1 81 := ⟨by decide +kernel, rfl⟩
theorem d8_81 : DAt B8 81 (.getfield 53) 3 84 := ⟨by decide +kernel, rfl⟩
theorem d8_84 : DAt B8 84 (.iload_n 1) 1 85 := ⟨by decide +kernel, rfl⟩
theorem d8_85 : DAt B8 85 (.iconst 0) 1 86 := ⟨by decide +kernel, rfl⟩
theorem d8_86 : DAt B8 86 (.bastore) 1 87 := ⟨by decide +kernel, rfl⟩
theorem d8_87 : DAt B8 87 (.aload_n 0) 1 88 := ⟨by decide +kernel, rfl⟩
theorem d8_88 : DAt B8 88 (.getfield 38) 3 91 := ⟨by decide +kernel, rfl⟩
theorem d8_91 : DAt B8 91 (.iload_n 2) 1 92 := ⟨by decide +kernel, rfl⟩
theorem d8_92 : DAt B8 92 (.iload_n 1) 1 93 := ⟨by decide +kernel, rfl⟩
theorem d8_93 : DAt B8 93 (.iastore) 1 94 := ⟨by decide +kernel, rfl⟩
theorem d8_94 : DAt B8 94 (.aload_n 0) 1 95 := ⟨by decide +kernel, rfl⟩
theorem d8_95 : DAt B8 95 (.getfield 44) 3 98 := ⟨by decide +kernel, rfl⟩
theorem d8_98 : DAt B8 98 (.iload_n 2) 1 99 := ⟨by decide +kernel, rfl⟩
theorem d8_99 : DAt B8 99 (.aload_n 0) 1 100 := ⟨by decide +kernel, rfl⟩
theorem d8_100 : DAt B8 100 (.getfield 13) 3 103 := ⟨by decide +kernel, rfl⟩
theorem d8_103 : DAt B8 103 (.iload_n 2) 1 104 := ⟨by decide +kernel, rfl⟩
theorem d8_104 : DAt B8 104 (.bipush 16) 2 106 := ⟨by decide +kernel, rfl⟩
theorem d8_106 : DAt B8 106 (.idiv) 1 107 := ⟨by decide +kernel, rfl⟩
theorem d8_107 : DAt B8 107 (.iaload) 1 108 := ⟨by decide +kernel, rfl⟩
theorem d8_108 : DAt B8 108 (.iastore) 1 109 := ⟨by decide +kernel, rfl⟩
theorem d8_109 : DAt B8 109 (.return_) 1 110 := ⟨by decide +kernel, rfl⟩
def B6 : Bdy := ((⟨"WsClockPager", "ensureResident", "(II)I"⟩ : MethodName), prog_1_method_25_code, 5, (some .int), ({ frames := 3, cells := 0, slots := 0, locals := 48 } : Room))
theorem d6_0 : DAt B6 0 (.iload_n 1) 1 1 := ⟨by decide +kernel, rfl⟩
theorem d6_1 : DAt B6 1 (.bipush 16) 2 3 := ⟨by decide +kernel, rfl⟩
theorem d6_3 : DAt B6 3 (.imul) 1 4 := ⟨by decide +kernel, rfl⟩
theorem d6_4 : DAt B6 4 (.iload_n 2) 1 5 := ⟨by decide +kernel, rfl⟩
theorem d6_5 : DAt B6 5 (.iadd) 1 6 := ⟨by decide +kernel, rfl⟩
theorem d6_6 : DAt B6 6 (.istore_n 3) 1 7 := ⟨by decide +kernel, rfl⟩
theorem d6_7 : DAt B6 7 (.aload_n 0) 1 8 := ⟨by decide +kernel, rfl⟩
theorem d6_8 : DAt B6 8 (.getfield 38) 3 11 := ⟨by decide +kernel, rfl⟩
theorem d6_11 : DAt B6 11 (.iload_n 3) 1 12 := ⟨by decide +kernel, rfl⟩
theorem d6_12 : DAt B6 12 (.iaload) 1 13 := ⟨by decide +kernel, rfl⟩
theorem d6_13 : DAt B6 13 (.istore 4) 2 15 := ⟨by decide +kernel, rfl⟩
theorem d6_15 : DAt B6 15 (.iload 4) 2 17 := ⟨by decide +kernel, rfl⟩
theorem d6_17 : DAt B6 17 (.ifCond .lt 6) 3 20 := ⟨by decide +kernel, rfl⟩
theorem d6_20 : DAt B6 20 (.iload 4) 2 22 := ⟨by decide +kernel, rfl⟩
theorem d6_22 : DAt B6 22 (.ireturn) 1 23 := ⟨by decide +kernel, rfl⟩
theorem d6_23 : DAt B6 23 (.aload_n 0) 1 24 := ⟨by decide +kernel, rfl⟩
theorem d6_24 : DAt B6 24 (.invokevirtual 132) 3 27 := ⟨by decide +kernel, rfl⟩
theorem d6_27 : DAt B6 27 (.istore 4) 2 29 := ⟨by decide +kernel, rfl⟩
theorem d6_29 : DAt B6 29 (.iload 4) 2 31 := ⟨by decide +kernel, rfl⟩
theorem d6_31 : DAt B6 31 (.ifCond .ge 15) 3 34 := ⟨by decide +kernel, rfl⟩
theorem d6_34 : DAt B6 34 (.aload_n 0) 1 35 := ⟨by decide +kernel, rfl⟩
theorem d6_35 : DAt B6 35 (.invokevirtual 135) 3 38 := ⟨by decide +kernel, rfl⟩
theorem d6_38 : DAt B6 38 (.istore 4) 2 40 := ⟨by decide +kernel, rfl⟩
theorem d6_40 : DAt B6 40 (.aload_n 0) 1 41 := ⟨by decide +kernel, rfl⟩
theorem d6_41 : DAt B6 41 (.iload 4) 2 43 := ⟨by decide +kernel, rfl⟩
theorem d6_43 : DAt B6 43 (.invokevirtual 138) 3 46 := ⟨by decide +kernel, rfl⟩
theorem d6_46 : DAt B6 46 (.aload_n 0) 1 47 := ⟨by decide +kernel, rfl⟩
theorem d6_47 : DAt B6 47 (.iload 4) 2 49 := ⟨by decide +kernel, rfl⟩
theorem d6_49 : DAt B6 49 (.iload_n 3) 1 50 := ⟨by decide +kernel, rfl⟩
theorem d6_50 : DAt B6 50 (.invokevirtual 141) 3 53 := ⟨by decide +kernel, rfl⟩
theorem d6_53 : DAt B6 53 (.iload 4) 2 55 := ⟨by decide +kernel, rfl⟩
theorem d6_55 : DAt B6 55 (.ireturn) 1 56 := ⟨by decide +kernel, rfl⟩
def B10 : Bdy := ((⟨"WsClockPager", "pushWindow", "(II)V"⟩ : MethodName), prog_1_method_22_code, 6, none, ({ frames := 0, cells := 0, slots := 0, locals := 0 } : Room))
theorem d10_0 : DAt B10 0 (.iload_n 1) 1 1 := ⟨by decide +kernel, rfl⟩
theorem d10_1 : DAt B10 1 (.bipush 16) 2 3 := ⟨by decide +kernel, rfl⟩
theorem d10_3 : DAt B10 3 (.imul) 1 4 := ⟨by decide +kernel, rfl⟩
theorem d10_4 : DAt B10 4 (.istore_n 3) 1 5 := ⟨by decide +kernel, rfl⟩
theorem d10_5 : DAt B10 5 (.aload_n 0) 1 6 := ⟨by decide +kernel, rfl⟩
theorem d10_6 : DAt B10 6 (.getfield 20) 3 9 := ⟨by decide +kernel, rfl⟩
theorem d10_9 : DAt B10 9 (.iload_n 1) 1 10 := ⟨by decide +kernel, rfl⟩
theorem d10_10 : DAt B10 10 (.iaload) 1 11 := ⟨by decide +kernel, rfl⟩
theorem d10_11 : DAt B10 11 (.istore 4) 2 13 := ⟨by decide +kernel, rfl⟩
theorem d10_13 : DAt B10 13 (.aload_n 0) 1 14 := ⟨by decide +kernel, rfl⟩
theorem d10_14 : DAt B10 14 (.getfield 17) 3 17 := ⟨by decide +kernel, rfl⟩
theorem d10_17 : DAt B10 17 (.iload_n 1) 1 18 := ⟨by decide +kernel, rfl⟩
theorem d10_18 : DAt B10 18 (.iaload) 1 19 := ⟨by decide +kernel, rfl⟩
theorem d10_19 : DAt B10 19 (.aload_n 0) 1 20 := ⟨by decide +kernel, rfl⟩
theorem d10_20 : DAt B10 20 (.getfield 79) 3 23 := ⟨by decide +kernel, rfl⟩
theorem d10_23 : DAt B10 23 (.if_icmp .lt 63) 3 26 := ⟨by decide +kernel, rfl⟩
theorem d10_26 : DAt B10 26 (.aload_n 0) 1 27 := ⟨by decide +kernel, rfl⟩
theorem d10_27 : DAt B10 27 (.getfield 29) 3 30 := ⟨by decide +kernel, rfl⟩
theorem d10_30 : DAt B10 30 (.iload_n 3) 1 31 := ⟨by decide +kernel, rfl⟩
theorem d10_31 : DAt B10 31 (.iload 4) 2 33 := ⟨by decide +kernel, rfl⟩
theorem d10_33 : DAt B10 33 (.iadd) 1 34 := ⟨by decide +kernel, rfl⟩
theorem d10_34 : DAt B10 34 (.iaload) 1 35 := ⟨by decide +kernel, rfl⟩
theorem d10_35 : DAt B10 35 (.istore 5) 2 37 := ⟨by decide +kernel, rfl⟩
theorem d10_37 : DAt B10 37 (.aload_n 0) 1 38 := ⟨by decide +kernel, rfl⟩
theorem d10_38 : DAt B10 38 (.getfield 32) 3 41 := ⟨by decide +kernel, rfl⟩
theorem d10_41 : DAt B10 41 (.iload_n 3) 1 42 := ⟨by decide +kernel, rfl⟩
theorem d10_42 : DAt B10 42 (.iload 5) 2 44 := ⟨by decide +kernel, rfl⟩
theorem d10_44 : DAt B10 44 (.iadd) 1 45 := ⟨by decide +kernel, rfl⟩
theorem d10_45 : DAt B10 45 (.aload_n 0) 1 46 := ⟨by decide +kernel, rfl⟩
theorem d10_46 : DAt B10 46 (.getfield 32) 3 49 := ⟨by decide +kernel, rfl⟩
theorem d10_49 : DAt B10 49 (.iload_n 3) 1 50 := ⟨by decide +kernel, rfl⟩
theorem d10_50 : DAt B10 50 (.iload 5) 2 52 := ⟨by decide +kernel, rfl⟩
theorem d10_52 : DAt B10 52 (.iadd) 1 53 := ⟨by decide +kernel, rfl⟩
theorem d10_53 : DAt B10 53 (.iaload) 1 54 := ⟨by decide +kernel, rfl⟩
theorem d10_54 : DAt B10 54 (.iconst 1) 1 55 := ⟨by decide +kernel, rfl⟩
theorem d10_55 : DAt B10 55 (.isub) 1 56 := ⟨by decide +kernel, rfl⟩
theorem d10_56 : DAt B10 56 (.iastore) 1 57 := ⟨by decide +kernel, rfl⟩
theorem d10_57 : DAt B10 57 (.aload_n 0) 1 58 := ⟨by decide +kernel, rfl⟩
theorem d10_58 : DAt B10 58 (.getfield 32) 3 61 := ⟨by decide +kernel, rfl⟩
theorem d10_61 : DAt B10 61 (.iload_n 3) 1 62 := ⟨by decide +kernel, rfl⟩
theorem d10_62 : DAt B10 62 (.iload 5) 2 64 := ⟨by decide +kernel, rfl⟩
theorem d10_64 : DAt B10 64 (.iadd) 1 65 := ⟨by decide +kernel, rfl⟩
theorem d10_65 : DAt B10 65 (.iaload) 1 66 := ⟨by decide +kernel, rfl⟩
theorem d10_66 : DAt B10 66 (.ifCond .ne 17) 3 69 := ⟨by decide +kernel, rfl⟩
theorem d10_69 : DAt B10 69 (.aload_n 0) 1 70 := ⟨by decide +kernel, rfl⟩
theorem d10_70 : DAt B10 70 (.getfield 23) 3 73 := ⟨by decide +kernel, rfl⟩
theorem d10_73 : DAt B10 73 (.iload_n 1) 1 74 := ⟨by decide +kernel, rfl⟩
theorem d10_74 : DAt B10 74 (.aload_n 0) 1 75 := ⟨by decide +kernel, rfl⟩
theorem d10_75 : DAt B10 75 (.getfield 23) 3 78 := ⟨by decide +kernel, rfl⟩
theorem d10_78 : DAt B10 78 (.iload_n 1) 1 79 := ⟨by decide +kernel, rfl⟩
theorem d10_79 : DAt B10 79 (.iaload) 1 80 := ⟨by decide +kernel, rfl⟩
theorem d10_80 : DAt B10 80 (.iconst 1) 1 81 := ⟨by decide +kernel, rfl⟩
theorem d10_81 : DAt B10 81 (.isub) 1 82 := ⟨by decide +kernel, rfl⟩
theorem d10_82 : DAt B10 82 (.iastore) 1 83 := ⟨by decide +kernel, rfl⟩
theorem d10_83 : DAt B10 83 (.goto 17) 3 86 := ⟨by decide +kernel, rfl⟩
theorem d10_86 : DAt B10 86 (.aload_n 0) 1 87 := ⟨by decide +kernel, rfl⟩
theorem d10_87 : DAt B10 87 (.getfield 17) 3 90 := ⟨by decide +kernel, rfl⟩
theorem d10_90 : DAt B10 90 (.iload_n 1) 1 91 := ⟨by decide +kernel, rfl⟩
theorem d10_91 : DAt B10 91 (.aload_n 0) 1 92 := ⟨by decide +kernel, rfl⟩
theorem d10_92 : DAt B10 92 (.getfield 17) 3 95 := ⟨by decide +kernel, rfl⟩
theorem d10_95 : DAt B10 95 (.iload_n 1) 1 96 := ⟨by decide +kernel, rfl⟩
theorem d10_96 : DAt B10 96 (.iaload) 1 97 := ⟨by decide +kernel, rfl⟩
theorem d10_97 : DAt B10 97 (.iconst 1) 1 98 := ⟨by decide +kernel, rfl⟩
theorem d10_98 : DAt B10 98 (.iadd) 1 99 := ⟨by decide +kernel, rfl⟩
theorem d10_99 : DAt B10 99 (.iastore) 1 100 := ⟨by decide +kernel, rfl⟩
theorem d10_100 : DAt B10 100 (.aload_n 0) 1 101 := ⟨by decide +kernel, rfl⟩
theorem d10_101 : DAt B10 101 (.getfield 29) 3 104 := ⟨by decide +kernel, rfl⟩
theorem d10_104 : DAt B10 104 (.iload_n 3) 1 105 := ⟨by decide +kernel, rfl⟩
theorem d10_105 : DAt B10 105 (.iload 4) 2 107 := ⟨by decide +kernel, rfl⟩
theorem d10_107 : DAt B10 107 (.iadd) 1 108 := ⟨by decide +kernel, rfl⟩
theorem d10_108 : DAt B10 108 (.iload_n 2) 1 109 := ⟨by decide +kernel, rfl⟩
theorem d10_109 : DAt B10 109 (.iastore) 1 110 := ⟨by decide +kernel, rfl⟩
theorem d10_110 : DAt B10 110 (.aload_n 0) 1 111 := ⟨by decide +kernel, rfl⟩
theorem d10_111 : DAt B10 111 (.getfield 32) 3 114 := ⟨by decide +kernel, rfl⟩
theorem d10_114 : DAt B10 114 (.iload_n 3) 1 115 := ⟨by decide +kernel, rfl⟩
theorem d10_115 : DAt B10 115 (.iload_n 2) 1 116 := ⟨by decide +kernel, rfl⟩
theorem d10_116 : DAt B10 116 (.iadd) 1 117 := ⟨by decide +kernel, rfl⟩
theorem d10_117 : DAt B10 117 (.iaload) 1 118 := ⟨by decide +kernel, rfl⟩
theorem d10_118 : DAt B10 118 (.ifCond .ne 17) 3 121 := ⟨by decide +kernel, rfl⟩
theorem d10_121 : DAt B10 121 (.aload_n 0) 1 122 := ⟨by decide +kernel, rfl⟩
theorem d10_122 : DAt B10 122 (.getfield 23) 3 125 := ⟨by decide +kernel, rfl⟩
theorem d10_125 : DAt B10 125 (.iload_n 1) 1 126 := ⟨by decide +kernel, rfl⟩
theorem d10_126 : DAt B10 126 (.aload_n 0) 1 127 := ⟨by decide +kernel, rfl⟩
theorem d10_127 : DAt B10 127 (.getfield 23) 3 130 := ⟨by decide +kernel, rfl⟩
theorem d10_130 : DAt B10 130 (.iload_n 1) 1 131 := ⟨by decide +kernel, rfl⟩
theorem d10_131 : DAt B10 131 (.iaload) 1 132 := ⟨by decide +kernel, rfl⟩
theorem d10_132 : DAt B10 132 (.iconst 1) 1 133 := ⟨by decide +kernel, rfl⟩
theorem d10_133 : DAt B10 133 (.iadd) 1 134 := ⟨by decide +kernel, rfl⟩
theorem d10_134 : DAt B10 134 (.iastore) 1 135 := ⟨by decide +kernel, rfl⟩
theorem d10_135 : DAt B10 135 (.aload_n 0) 1 136 := ⟨by decide +kernel, rfl⟩
theorem d10_136 : DAt B10 136 (.getfield 32) 3 139 := ⟨by decide +kernel, rfl⟩
theorem d10_139 : DAt B10 139 (.iload_n 3) 1 140 := ⟨by decide +kernel, rfl⟩
theorem d10_140 : DAt B10 140 (.iload_n 2) 1 141 := ⟨by decide +kernel, rfl⟩
theorem d10_141 : DAt B10 141 (.iadd) 1 142 := ⟨by decide +kernel, rfl⟩
theorem d10_142 : DAt B10 142 (.aload_n 0) 1 143 := ⟨by decide +kernel, rfl⟩
theorem d10_143 : DAt B10 143 (.getfield 32) 3 146 := ⟨by decide +kernel, rfl⟩
theorem d10_146 : DAt B10 146 (.iload_n 3) 1 147 := ⟨by decide +kernel, rfl⟩
theorem d10_147 : DAt B10 147 (.iload_n 2) 1 148 := ⟨by decide +kernel, rfl⟩
theorem d10_148 : DAt B10 148 (.iadd) 1 149 := ⟨by decide +kernel, rfl⟩
theorem d10_149 : DAt B10 149 (.iaload) 1 150 := ⟨by decide +kernel, rfl⟩
theorem d10_150 : DAt B10 150 (.iconst 1) 1 151 := ⟨by decide +kernel, rfl⟩
theorem d10_151 : DAt B10 151 (.iadd) 1 152 := ⟨by decide +kernel, rfl⟩
theorem d10_152 : DAt B10 152 (.iastore) 1 153 := ⟨by decide +kernel, rfl⟩
theorem d10_153 : DAt B10 153 (.aload_n 0) 1 154 := ⟨by decide +kernel, rfl⟩
theorem d10_154 : DAt B10 154 (.getfield 20) 3 157 := ⟨by decide +kernel, rfl⟩
theorem d10_157 : DAt B10 157 (.iload_n 1) 1 158 := ⟨by decide +kernel, rfl⟩
theorem d10_158 : DAt B10 158 (.iload 4) 2 160 := ⟨by decide +kernel, rfl⟩
theorem d10_160 : DAt B10 160 (.iconst 1) 1 161 := ⟨by decide +kernel, rfl⟩
theorem d10_161 : DAt B10 161 (.iadd) 1 162 := ⟨by decide +kernel, rfl⟩
theorem d10_162 : DAt B10 162 (.aload_n 0) 1 163 := ⟨by decide +kernel, rfl⟩
theorem d10_163 : DAt B10 163 (.getfield 79) 3 166 := ⟨by decide +kernel, rfl⟩
theorem d10_166 : DAt B10 166 (.irem) 1 167 := ⟨by decide +kernel, rfl⟩
theorem d10_167 : DAt B10 167 (.iastore) 1 168 := ⟨by decide +kernel, rfl⟩
theorem d10_168 : DAt B10 168 (.return_) 1 169 := ⟨by decide +kernel, rfl⟩
def B9 : Bdy := ((⟨"WsClockPager", "recordReference", "(II)V"⟩ : MethodName), prog_1_method_21_code, 5, none, ({ frames := 1, cells := 0, slots := 0, locals := 17 } : Room))
theorem d9_0 : DAt B9 0 (.iload_n 1) 1 1 := ⟨by decide +kernel, rfl⟩
theorem d9_1 : DAt B9 1 (.bipush 16) 2 3 := ⟨by decide +kernel, rfl⟩
theorem d9_3 : DAt B9 3 (.imul) 1 4 := ⟨by decide +kernel, rfl⟩
theorem d9_4 : DAt B9 4 (.iload_n 2) 1 5 := ⟨by decide +kernel, rfl⟩
theorem d9_5 : DAt B9 5 (.iadd) 1 6 := ⟨by decide +kernel, rfl⟩
theorem d9_6 : DAt B9 6 (.istore_n 3) 1 7 := ⟨by decide +kernel, rfl⟩
theorem d9_7 : DAt B9 7 (.aload_n 0) 1 8 := ⟨by decide +kernel, rfl⟩
theorem d9_8 : DAt B9 8 (.getfield 38) 3 11 := ⟨by decide +kernel, rfl⟩
theorem d9_11 : DAt B9 11 (.iload_n 3) 1 12 := ⟨by decide +kernel, rfl⟩
theorem d9_12 : DAt B9 12 (.iaload) 1 13 := ⟨by decide +kernel, rfl⟩
theorem d9_13 : DAt B9 13 (.istore 4) 2 15 := ⟨by decide +kernel, rfl⟩
theorem d9_15 : DAt B9 15 (.iload 4) 2 17 := ⟨by decide +kernel, rfl⟩
theorem d9_17 : DAt B9 17 (.ifCond .lt 11) 3 20 := ⟨by decide +kernel, rfl⟩
theorem d9_20 : DAt B9 20 (.aload_n 0) 1 21 := ⟨by decide +kernel, rfl⟩
theorem d9_21 : DAt B9 21 (.getfield 50) 3 24 := ⟨by decide +kernel, rfl⟩
theorem d9_24 : DAt B9 24 (.iload 4) 2 26 := ⟨by decide +kernel, rfl⟩
theorem d9_26 : DAt B9 26 (.iconst 1) 1 27 := ⟨by decide +kernel, rfl⟩
theorem d9_27 : DAt B9 27 (.bastore) 1 28 := ⟨by decide +kernel, rfl⟩
theorem d9_28 : DAt B9 28 (.aload_n 0) 1 29 := ⟨by decide +kernel, rfl⟩
theorem d9_29 : DAt B9 29 (.getfield 13) 3 32 := ⟨by decide +kernel, rfl⟩
theorem d9_32 : DAt B9 32 (.iload_n 1) 1 33 := ⟨by decide +kernel, rfl⟩
theorem d9_33 : DAt B9 33 (.aload_n 0) 1 34 := ⟨by decide +kernel, rfl⟩
theorem d9_34 : DAt B9 34 (.getfield 13) 3 37 := ⟨by decide +kernel, rfl⟩
theorem d9_37 : DAt B9 37 (.iload_n 1) 1 38 := ⟨by decide +kernel, rfl⟩
theorem d9_38 : DAt B9 38 (.iaload) 1 39 := ⟨by decide +kernel, rfl⟩
theorem d9_39 : DAt B9 39 (.iconst 1) 1 40 := ⟨by decide +kernel, rfl⟩
theorem d9_40 : DAt B9 40 (.iadd) 1 41 := ⟨by decide +kernel, rfl⟩
theorem d9_41 : DAt B9 41 (.iastore) 1 42 := ⟨by decide +kernel, rfl⟩
theorem d9_42 : DAt B9 42 (.aload_n 0) 1 43 := ⟨by decide +kernel, rfl⟩
theorem d9_43 : DAt B9 43 (.getfield 44) 3 46 := ⟨by decide +kernel, rfl⟩
theorem d9_46 : DAt B9 46 (.iload_n 3) 1 47 := ⟨by decide +kernel, rfl⟩
theorem d9_47 : DAt B9 47 (.aload_n 0) 1 48 := ⟨by decide +kernel, rfl⟩
theorem d9_48 : DAt B9 48 (.getfield 13) 3 51 := ⟨by decide +kernel, rfl⟩
theorem d9_51 : DAt B9 51 (.iload_n 1) 1 52 := ⟨by decide +kernel, rfl⟩
theorem d9_52 : DAt B9 52 (.iaload) 1 53 := ⟨by decide +kernel, rfl⟩
theorem d9_53 : DAt B9 53 (.iastore) 1 54 := ⟨by decide +kernel, rfl⟩
theorem d9_54 : DAt B9 54 (.aload_n 0) 1 55 := ⟨by decide +kernel, rfl⟩
theorem d9_55 : DAt B9 55 (.iload_n 1) 1 56 := ⟨by decide +kernel, rfl⟩
theorem d9_56 : DAt B9 56 (.iload_n 2) 1 57 := ⟨by decide +kernel, rfl⟩
theorem d9_57 : DAt B9 57 (.invokevirtual 121) 3 60 := ⟨by decide +kernel, rfl⟩
theorem d9_60 : DAt B9 60 (.aload_n 0) 1 61 := ⟨by decide +kernel, rfl⟩
theorem d9_61 : DAt B9 61 (.getfield 35) 3 64 := ⟨by decide +kernel, rfl⟩
theorem d9_64 : DAt B9 64 (.iload_n 3) 1 65 := ⟨by decide +kernel, rfl⟩
theorem d9_65 : DAt B9 65 (.baload) 1 66 := ⟨by decide +kernel, rfl⟩
theorem d9_66 : DAt B9 66 (.ifCond .ne 24) 3 69 := ⟨by decide +kernel, rfl⟩
theorem d9_69 : DAt B9 69 (.aload_n 0) 1 70 := ⟨by decide +kernel, rfl⟩
theorem d9_70 : DAt B9 70 (.getfield 35) 3 73 := ⟨by decide +kernel, rfl⟩
theorem d9_73 : DAt B9 73 (.iload_n 3) 1 74 := ⟨by decide +kernel, rfl⟩
theorem d9_74 : DAt B9 74 (.iconst 1) 1 75 := ⟨by decide +kernel, rfl⟩
theorem d9_75 : DAt B9 75 (.bastore) 1 76 := ⟨by decide +kernel, rfl⟩
theorem d9_76 : DAt B9 76 (.aload_n 0) 1 77 := ⟨by decide +kernel, rfl⟩
theorem d9_77 : DAt B9 77 (.getfield 26) 3 80 := ⟨by decide +kernel, rfl⟩
theorem d9_80 : DAt B9 80 (.iload_n 1) 1 81 := ⟨by decide +kernel, rfl⟩
theorem d9_81 : DAt B9 81 (.aload_n 0) 1 82 := ⟨by decide +kernel, rfl⟩
theorem d9_82 : DAt B9 82 (.getfield 26) 3 85 := ⟨by decide +kernel, rfl⟩
theorem d9_85 : DAt B9 85 (.iload_n 1) 1 86 := ⟨by decide +kernel, rfl⟩
theorem d9_86 : DAt B9 86 (.iaload) 1 87 := ⟨by decide +kernel, rfl⟩
theorem d9_87 : DAt B9 87 (.iconst 1) 1 88 := ⟨by decide +kernel, rfl⟩
theorem d9_88 : DAt B9 88 (.iadd) 1 89 := ⟨by decide +kernel, rfl⟩
theorem d9_89 : DAt B9 89 (.iastore) 1 90 := ⟨by decide +kernel, rfl⟩
theorem d9_90 : DAt B9 90 (.return_) 1 91 := ⟨by decide +kernel, rfl⟩
def B12 : Bdy := ((⟨"WsClockPager", "activeTotal", "()I"⟩ : MethodName), prog_1_method_10_code, 3, (some .int), ({ frames := 0, cells := 0, slots := 0, locals := 0 } : Room))
theorem d12_0 : DAt B12 0 (.iconst 0) 1 1 := ⟨by decide +kernel, rfl⟩
theorem d12_1 : DAt B12 1 (.istore_n 1) 1 2 := ⟨by decide +kernel, rfl⟩
theorem d12_2 : DAt B12 2 (.iconst 0) 1 3 := ⟨by decide +kernel, rfl⟩
theorem d12_3 : DAt B12 3 (.istore_n 2) 1 4 := ⟨by decide +kernel, rfl⟩
theorem d12_4 : DAt B12 4 (.iload_n 2) 1 5 := ⟨by decide +kernel, rfl⟩
theorem d12_5 : DAt B12 5 (.aload_n 0) 1 6 := ⟨by decide +kernel, rfl⟩
theorem d12_6 : DAt B12 6 (.getfield 69) 3 9 := ⟨by decide +kernel, rfl⟩
theorem d12_9 : DAt B12 9 (.if_icmp .ge 27) 3 12 := ⟨by decide +kernel, rfl⟩
theorem d12_12 : DAt B12 12 (.aload_n 0) 1 13 := ⟨by decide +kernel, rfl⟩
theorem d12_13 : DAt B12 13 (.getfield 7) 3 16 := ⟨by decide +kernel, rfl⟩
theorem d12_16 : DAt B12 16 (.iload_n 2) 1 17 := ⟨by decide +kernel, rfl⟩
theorem d12_17 : DAt B12 17 (.baload) 1 18 := ⟨by decide +kernel, rfl⟩
theorem d12_18 : DAt B12 18 (.ifCond .ne 12) 3 21 := ⟨by decide +kernel, rfl⟩
theorem d12_21 : DAt B12 21 (.iload_n 1) 1 22 := ⟨by decide +kernel, rfl⟩
theorem d12_22 : DAt B12 22 (.aload_n 0) 1 23 := ⟨by decide +kernel, rfl⟩
theorem d12_23 : DAt B12 23 (.getfield 23) 3 26 := ⟨by decide +kernel, rfl⟩
theorem d12_26 : DAt B12 26 (.iload_n 2) 1 27 := ⟨by decide +kernel, rfl⟩
theorem d12_27 : DAt B12 27 (.iaload) 1 28 := ⟨by decide +kernel, rfl⟩
theorem d12_28 : DAt B12 28 (.iadd) 1 29 := ⟨by decide +kernel, rfl⟩
theorem d12_29 : DAt B12 29 (.istore_n 1) 1 30 := ⟨by decide +kernel, rfl⟩
theorem d12_30 : DAt B12 30 (.iinc 2 1) 3 33 := ⟨by decide +kernel, rfl⟩
theorem d12_33 : DAt B12 33 (.goto (-29)) 3 36 := ⟨by decide +kernel, rfl⟩
theorem d12_36 : DAt B12 36 (.iload_n 1) 1 37 := ⟨by decide +kernel, rfl⟩
theorem d12_37 : DAt B12 37 (.ireturn) 1 38 := ⟨by decide +kernel, rfl⟩
def B17 : Bdy := ((⟨"WsClockPager", "pickProcessToSuspend", "(I)I"⟩ : MethodName), prog_1_method_24_code, 3, (some .int), ({ frames := 0, cells := 0, slots := 0, locals := 0 } : Room))
theorem d17_0 : DAt B17 0 (.aload_n 0) 1 1 := ⟨by decide +kernel, rfl⟩
theorem d17_1 : DAt B17 1 (.getfield 69) 3 4 := ⟨by decide +kernel, rfl⟩
theorem d17_4 : DAt B17 4 (.iconst 1) 1 5 := ⟨by decide +kernel, rfl⟩
theorem d17_5 : DAt B17 5 (.isub) 1 6 := ⟨by decide +kernel, rfl⟩
theorem d17_6 : DAt B17 6 (.istore_n 2) 1 7 := ⟨by decide +kernel, rfl⟩
theorem d17_7 : DAt B17 7 (.iload_n 2) 1 8 := ⟨by decide +kernel, rfl⟩
theorem d17_8 : DAt B17 8 (.ifCond .lt 34) 3 11 := ⟨by decide +kernel, rfl⟩
theorem d17_11 : DAt B17 11 (.iload_n 2) 1 12 := ⟨by decide +kernel, rfl⟩
theorem d17_12 : DAt B17 12 (.iload_n 1) 1 13 := ⟨by decide +kernel, rfl⟩
theorem d17_13 : DAt B17 13 (.if_icmp .eq 23) 3 16 := ⟨by decide +kernel, rfl⟩
theorem d17_16 : DAt B17 16 (.aload_n 0) 1 17 := ⟨by decide +kernel, rfl⟩
theorem d17_17 : DAt B17 17 (.getfield 7) 3 20 := ⟨by decide +kernel, rfl⟩
theorem d17_20 : DAt B17 20 (.iload_n 2) 1 21 := ⟨by decide +kernel, rfl⟩
theorem d17_21 : DAt B17 21 (.baload) 1 22 := ⟨by decide +kernel, rfl⟩
theorem d17_22 : DAt B17 22 (.ifCond .ne 14) 3 25 := ⟨by decide +kernel, rfl⟩
theorem d17_25 : DAt B17 25 (.aload_n 0) 1 26 := ⟨by decide +kernel, rfl⟩
theorem d17_26 : DAt B17 26 (.getfield 23) 3 29 := ⟨by decide +kernel, rfl⟩
theorem d17_29 : DAt B17 29 (.iload_n 2) 1 30 := ⟨by decide +kernel, rfl⟩
theorem d17_30 : DAt B17 30 (.iaload) 1 31 := ⟨by decide +kernel, rfl⟩
theorem d17_31 : DAt B17 31 (.ifCond .le 5) 3 34 := ⟨by decide +kernel, rfl⟩
theorem d17_34 : DAt B17 34 (.iload_n 2) 1 35 := ⟨by decide +kernel, rfl⟩
theorem d17_35 : DAt B17 35 (.ireturn) 1 36 := ⟨by decide +kernel, rfl⟩
theorem d17_36 : DAt B17 36 (.iinc 2 (-1)) 3 39 := ⟨by decide +kernel, rfl⟩
theorem d17_39 : DAt B17 39 (.goto (-32)) 3 42 := ⟨by decide +kernel, rfl⟩
theorem d17_42 : DAt B17 42 (.iconst (-1)) 1 43 := ⟨by decide +kernel, rfl⟩
theorem d17_43 : DAt B17 43 (.ireturn) 1 44 := ⟨by decide +kernel, rfl⟩
def B11 : Bdy := ((⟨"WsClockPager", "loadControl", "(I)V"⟩ : MethodName), prog_1_method_23_code, 5, none, ({ frames := 1, cells := 0, slots := 0, locals := 14 } : Room))
theorem d11_0 : DAt B11 0 (.iconst 0) 1 1 := ⟨by decide +kernel, rfl⟩
theorem d11_1 : DAt B11 1 (.istore_n 2) 1 2 := ⟨by decide +kernel, rfl⟩
theorem d11_2 : DAt B11 2 (.iload_n 2) 1 3 := ⟨by decide +kernel, rfl⟩
theorem d11_3 : DAt B11 3 (.aload_n 0) 1 4 := ⟨by decide +kernel, rfl⟩
theorem d11_4 : DAt B11 4 (.getfield 69) 3 7 := ⟨by decide +kernel, rfl⟩
theorem d11_7 : DAt B11 7 (.if_icmp .ge 58) 3 10 := ⟨by decide +kernel, rfl⟩
theorem d11_10 : DAt B11 10 (.aload_n 0) 1 11 := ⟨by decide +kernel, rfl⟩
theorem d11_11 : DAt B11 11 (.invokevirtual 124) 3 14 := ⟨by decide +kernel, rfl⟩
theorem d11_14 : DAt B11 14 (.istore_n 3) 1 15 := ⟨by decide +kernel, rfl⟩
theorem d11_15 : DAt B11 15 (.iload_n 3) 1 16 := ⟨by decide +kernel, rfl⟩
theorem d11_16 : DAt B11 16 (.aload_n 0) 1 17 := ⟨by decide +kernel, rfl⟩
theorem d11_17 : DAt B11 17 (.getfield 76) 3 20 := ⟨by decide +kernel, rfl⟩
theorem d11_20 : DAt B11 20 (.if_icmp .gt 6) 3 23 := ⟨by decide +kernel, rfl⟩
theorem d11_23 : DAt B11 23 (.goto 42) 3 26 := ⟨by decide +kernel, rfl⟩
theorem d11_26 : DAt B11 26 (.aload_n 0) 1 27 := ⟨by decide +kernel, rfl⟩
theorem d11_27 : DAt B11 27 (.iload_n 1) 1 28 := ⟨by decide +kernel, rfl⟩
theorem d11_28 : DAt B11 28 (.invokevirtual 128) 3 31 := ⟨by decide +kernel, rfl⟩
theorem d11_31 : DAt B11 31 (.istore 4) 2 33 := ⟨by decide +kernel, rfl⟩
theorem d11_33 : DAt B11 33 (.iload 4) 2 35 := ⟨by decide +kernel, rfl⟩
theorem d11_35 : DAt B11 35 (.ifCond .ge 6) 3 38 := ⟨by decide +kernel, rfl⟩
theorem d11_38 : DAt B11 38 (.goto 27) 3 41 := ⟨by decide +kernel, rfl⟩
theorem d11_41 : DAt B11 41 (.aload_n 0) 1 42 := ⟨by decide +kernel, rfl⟩
theorem d11_42 : DAt B11 42 (.getfield 7) 3 45 := ⟨by decide +kernel, rfl⟩
theorem d11_45 : DAt B11 45 (.iload 4) 2 47 := ⟨by decide +kernel, rfl⟩
theorem d11_47 : DAt B11 47 (.iconst 1) 1 48 := ⟨by decide +kernel, rfl⟩
theorem d11_48 : DAt B11 48 (.bastore) 1 49 := ⟨by decide +kernel, rfl⟩
theorem d11_49 : DAt B11 49 (.aload_n 0) 1 50 := ⟨by decide +kernel, rfl⟩
theorem d11_50 : DAt B11 50 (.dup) 1 51 := ⟨by decide +kernel, rfl⟩
theorem d11_51 : DAt B11 51 (.getfield 85) 3 54 := ⟨by decide +kernel, rfl⟩
theorem d11_54 : DAt B11 54 (.iconst 1) 1 55 := ⟨by decide +kernel, rfl⟩
theorem d11_55 : DAt B11 55 (.iadd) 1 56 := ⟨by decide +kernel, rfl⟩
theorem d11_56 : DAt B11 56 (.putfield 85) 3 59 := ⟨by decide +kernel, rfl⟩
theorem d11_59 : DAt B11 59 (.iinc 2 1) 3 62 := ⟨by decide +kernel, rfl⟩
theorem d11_62 : DAt B11 62 (.goto (-60)) 3 65 := ⟨by decide +kernel, rfl⟩
theorem d11_65 : DAt B11 65 (.iconst 0) 1 66 := ⟨by decide +kernel, rfl⟩
theorem d11_66 : DAt B11 66 (.istore_n 2) 1 67 := ⟨by decide +kernel, rfl⟩
theorem d11_67 : DAt B11 67 (.iload_n 2) 1 68 := ⟨by decide +kernel, rfl⟩
theorem d11_68 : DAt B11 68 (.aload_n 0) 1 69 := ⟨by decide +kernel, rfl⟩
theorem d11_69 : DAt B11 69 (.getfield 69) 3 72 := ⟨by decide +kernel, rfl⟩
theorem d11_72 : DAt B11 72 (.if_icmp .ge 55) 3 75 := ⟨by decide +kernel, rfl⟩
theorem d11_75 : DAt B11 75 (.aload_n 0) 1 76 := ⟨by decide +kernel, rfl⟩
theorem d11_76 : DAt B11 76 (.getfield 7) 3 79 := ⟨by decide +kernel, rfl⟩
theorem d11_79 : DAt B11 79 (.iload_n 2) 1 80 := ⟨by decide +kernel, rfl⟩
theorem d11_80 : DAt B11 80 (.baload) 1 81 := ⟨by decide +kernel, rfl⟩
theorem d11_81 : DAt B11 81 (.ifCond .eq 40) 3 84 := ⟨by decide +kernel, rfl⟩
theorem d11_84 : DAt B11 84 (.aload_n 0) 1 85 := ⟨by decide +kernel, rfl⟩
theorem d11_85 : DAt B11 85 (.invokevirtual 124) 3 88 := ⟨by decide +kernel, rfl⟩
theorem d11_88 : DAt B11 88 (.istore_n 3) 1 89 := ⟨by decide +kernel, rfl⟩
theorem d11_89 : DAt B11 89 (.iload_n 3) 1 90 := ⟨by decide +kernel, rfl⟩
theorem d11_90 : DAt B11 90 (.aload_n 0) 1 91 := ⟨by decide +kernel, rfl⟩
theorem d11_91 : DAt B11 91 (.getfield 23) 3 94 := ⟨by decide +kernel, rfl⟩
theorem d11_94 : DAt B11 94 (.iload_n 2) 1 95 := ⟨by decide +kernel, rfl⟩
theorem d11_95 : DAt B11 95 (.iaload) 1 96 := ⟨by decide +kernel, rfl⟩
theorem d11_96 : DAt B11 96 (.iadd) 1 97 := ⟨by decide +kernel, rfl⟩
theorem d11_97 : DAt B11 97 (.aload_n 0) 1 98 := ⟨by decide +kernel, rfl⟩
theorem d11_98 : DAt B11 98 (.getfield 76) 3 101 := ⟨by decide +kernel, rfl⟩
theorem d11_101 : DAt B11 101 (.if_icmp .gt 20) 3 104 := ⟨by decide +kernel, rfl⟩
theorem d11_104 : DAt B11 104 (.aload_n 0) 1 105 := ⟨by decide +kernel, rfl⟩
theorem d11_105 : DAt B11 105 (.getfield 7) 3 108 := ⟨by decide +kernel, rfl⟩
theorem d11_108 : DAt B11 108 (.iload_n 2) 1 109 := ⟨by decide +kernel, rfl⟩
theorem d11_109 : DAt B11 109 (.iconst 0) 1 110 := ⟨by decide +kernel, rfl⟩
theorem d11_110 : DAt B11 110 (.bastore) 1 111 := ⟨by decide +kernel, rfl⟩
theorem d11_111 : DAt B11 111 (.aload_n 0) 1 112 := ⟨by decide +kernel, rfl⟩
theorem d11_112 : DAt B11 112 (.dup) 1 113 := ⟨by decide +kernel, rfl⟩
theorem d11_113 : DAt B11 113 (.getfield 88) 3 116 := ⟨by decide +kernel, rfl⟩
theorem d11_116 : DAt B11 116 (.iconst 1) 1 117 := ⟨by decide +kernel, rfl⟩
theorem d11_117 : DAt B11 117 (.iadd) 1 118 := ⟨by decide +kernel, rfl⟩
theorem d11_118 : DAt B11 118 (.putfield 88) 3 121 := ⟨by decide +kernel, rfl⟩
theorem d11_121 : DAt B11 121 (.iinc 2 1) 3 124 := ⟨by decide +kernel, rfl⟩
theorem d11_124 : DAt B11 124 (.goto (-57)) 3 127 := ⟨by decide +kernel, rfl⟩
theorem d11_127 : DAt B11 127 (.return_) 1 128 := ⟨by decide +kernel, rfl⟩
def B3 : Bdy := ((⟨"WsClockPager", "store", "(III)I"⟩ : MethodName), prog_1_method_3_code, 7, (some .int), ({ frames := 4, cells := 0, slots := 0, locals := 64 } : Room))
theorem d3_0 : DAt B3 0 (.aload_n 0) 1 1 := ⟨by decide +kernel, rfl⟩
theorem d3_1 : DAt B3 1 (.iload_n 1) 1 2 := ⟨by decide +kernel, rfl⟩
theorem d3_2 : DAt B3 2 (.iload_n 2) 1 3 := ⟨by decide +kernel, rfl⟩
theorem d3_3 : DAt B3 3 (.invokevirtual 94) 3 6 := ⟨by decide +kernel, rfl⟩
theorem d3_6 : DAt B3 6 (.istore 4) 2 8 := ⟨by decide +kernel, rfl⟩
theorem d3_8 : DAt B3 8 (.iload 4) 2 10 := ⟨by decide +kernel, rfl⟩
theorem d3_10 : DAt B3 10 (.ifCond .eq 12) 3 13 := ⟨by decide +kernel, rfl⟩
theorem d3_13 : DAt B3 13 (.aload_n 0) 1 14 := ⟨by decide +kernel, rfl⟩
theorem d3_14 : DAt B3 14 (.iload 4) 2 16 := ⟨by decide +kernel, rfl⟩
theorem d3_16 : DAt B3 16 (.putfield 82) 3 19 := ⟨by decide +kernel, rfl⟩
theorem d3_19 : DAt B3 19 (.iload 4) 2 21 := ⟨by decide +kernel, rfl⟩
theorem d3_21 : DAt B3 21 (.ireturn) 1 22 := ⟨by decide +kernel, rfl⟩
theorem d3_22 : DAt B3 22 (.iload_n 2) 1 23 := ⟨by decide +kernel, rfl⟩
theorem d3_23 : DAt B3 23 (.iconst 4) 1 24 := ⟨by decide +kernel, rfl⟩
theorem d3_24 : DAt B3 24 (.idiv) 1 25 := ⟨by decide +kernel, rfl⟩
theorem d3_25 : DAt B3 25 (.istore 5) 2 27 := ⟨by decide +kernel, rfl⟩
theorem d3_27 : DAt B3 27 (.aload_n 0) 1 28 := ⟨by decide +kernel, rfl⟩
theorem d3_28 : DAt B3 28 (.iload_n 1) 1 29 := ⟨by decide +kernel, rfl⟩
theorem d3_29 : DAt B3 29 (.iload 5) 2 31 := ⟨by decide +kernel, rfl⟩
theorem d3_31 : DAt B3 31 (.invokevirtual 100) 3 34 := ⟨by decide +kernel, rfl⟩
theorem d3_34 : DAt B3 34 (.istore 6) 2 36 := ⟨by decide +kernel, rfl⟩
theorem d3_36 : DAt B3 36 (.aload_n 0) 1 37 := ⟨by decide +kernel, rfl⟩
theorem d3_37 : DAt B3 37 (.getfield 56) 3 40 := ⟨by decide +kernel, rfl⟩
theorem d3_40 : DAt B3 40 (.iload 6) 2 42 := ⟨by decide +kernel, rfl⟩
theorem d3_42 : DAt B3 42 (.iconst 4) 1 43 := ⟨by decide +kernel, rfl⟩
theorem d3_43 : DAt B3 43 (.imul) 1 44 := ⟨by decide +kernel, rfl⟩
theorem d3_44 : DAt B3 44 (.iload_n 2) 1 45 := ⟨by decide +kernel, rfl⟩
theorem d3_45 : DAt B3 45 (.iconst 4) 1 46 := ⟨by decide +kernel, rfl⟩
theorem d3_46 : DAt B3 46 (.irem) 1 47 := ⟨by decide +kernel, rfl⟩
theorem d3_47 : DAt B3 47 (.iadd) 1 48 := ⟨by decide +kernel, rfl⟩
theorem d3_48 : DAt B3 48 (.iload_n 3) 1 49 := ⟨by decide +kernel, rfl⟩
theorem d3_49 : DAt B3 49 (.iastore) 1 50 := ⟨by decide +kernel, rfl⟩
theorem d3_50 : DAt B3 50 (.aload_n 0) 1 51 := ⟨by decide +kernel, rfl⟩
theorem d3_51 : DAt B3 51 (.getfield 53) 3 54 := ⟨by decide +kernel, rfl⟩
theorem d3_54 : DAt B3 54 (.iload 6) 2 56 := ⟨by decide +kernel, rfl⟩
theorem d3_56 : DAt B3 56 (.iconst 1) 1 57 := ⟨by decide +kernel, rfl⟩
theorem d3_57 : DAt B3 57 (.bastore) 1 58 := ⟨by decide +kernel, rfl⟩
theorem d3_58 : DAt B3 58 (.aload_n 0) 1 59 := ⟨by decide +kernel, rfl⟩
theorem d3_59 : DAt B3 59 (.iload_n 1) 1 60 := ⟨by decide +kernel, rfl⟩
theorem d3_60 : DAt B3 60 (.iload 5) 2 62 := ⟨by decide +kernel, rfl⟩
theorem d3_62 : DAt B3 62 (.invokevirtual 103) 3 65 := ⟨by decide +kernel, rfl⟩
theorem d3_65 : DAt B3 65 (.aload_n 0) 1 66 := ⟨by decide +kernel, rfl⟩
theorem d3_66 : DAt B3 66 (.iload_n 1) 1 67 := ⟨by decide +kernel, rfl⟩
theorem d3_67 : DAt B3 67 (.invokevirtual 107) 3 70 := ⟨by decide +kernel, rfl⟩
theorem d3_70 : DAt B3 70 (.aload_n 0) 1 71 := ⟨by decide +kernel, rfl⟩
theorem d3_71 : DAt B3 71 (.iconst 0) 1 72 := ⟨by decide +kernel, rfl⟩
theorem d3_72 : DAt B3 72 (.putfield 82) 3 75 := ⟨by decide +kernel, rfl⟩
theorem d3_75 : DAt B3 75 (.iconst 0) 1 76 := ⟨by decide +kernel, rfl⟩
theorem d3_76 : DAt B3 76 (.ireturn) 1 77 := ⟨by decide +kernel, rfl⟩
def B18 : Bdy := ((⟨"WsClockPager", "isSuspended", "(I)Z"⟩ : MethodName), prog_1_method_6_code, 2, (some .boolean), ({ frames := 1, cells := 0, slots := 0, locals := 13 } : Room))
theorem d18_0 : DAt B18 0 (.aload_n 0) 1 1 := ⟨by decide +kernel, rfl⟩
theorem d18_1 : DAt B18 1 (.iload_n 1) 1 2 := ⟨by decide +kernel, rfl⟩
theorem d18_2 : DAt B18 2 (.invokevirtual 111) 3 5 := ⟨by decide +kernel, rfl⟩
theorem d18_5 : DAt B18 5 (.ifCond .ne 5) 3 8 := ⟨by decide +kernel, rfl⟩
theorem d18_8 : DAt B18 8 (.iconst 0) 1 9 := ⟨by decide +kernel, rfl⟩
theorem d18_9 : DAt B18 9 (.ireturn) 1 10 := ⟨by decide +kernel, rfl⟩
theorem d18_10 : DAt B18 10 (.aload_n 0) 1 11 := ⟨by decide +kernel, rfl⟩
theorem d18_11 : DAt B18 11 (.getfield 7) 3 14 := ⟨by decide +kernel, rfl⟩
theorem d18_14 : DAt B18 14 (.iload_n 1) 1 15 := ⟨by decide +kernel, rfl⟩
theorem d18_15 : DAt B18 15 (.baload) 1 16 := ⟨by decide +kernel, rfl⟩
theorem d18_16 : DAt B18 16 (.ireturn) 1 17 := ⟨by decide +kernel, rfl⟩
def B19 : Bdy := ((⟨"WsClockPager", "suspensions", "()I"⟩ : MethodName), prog_1_method_11_code, 1, (some .int), ({ frames := 0, cells := 0, slots := 0, locals := 0 } : Room))
theorem d19_0 : DAt B19 0 (.aload_n 0) 1 1 := ⟨by decide +kernel, rfl⟩
theorem d19_1 : DAt B19 1 (.getfield 85) 3 4 := ⟨by decide +kernel, rfl⟩
theorem d19_4 : DAt B19 4 (.ireturn) 1 5 := ⟨by decide +kernel, rfl⟩
def B20 : Bdy := ((⟨"WsClockPager", "load", "(II)J"⟩ : MethodName), prog_1_method_2_code, 7, (some .long), ({ frames := 4, cells := 0, slots := 0, locals := 64 } : Room))
theorem d20_0 : DAt B20 0 (.aload_n 0) 1 1 := ⟨by decide +kernel, rfl⟩
theorem d20_1 : DAt B20 1 (.iload_n 1) 1 2 := ⟨by decide +kernel, rfl⟩
theorem d20_2 : DAt B20 2 (.iload_n 2) 1 3 := ⟨by decide +kernel, rfl⟩
theorem d20_3 : DAt B20 3 (.invokevirtual 94) 3 6 := ⟨by decide +kernel, rfl⟩
theorem d20_6 : DAt B20 6 (.istore_n 3) 1 7 := ⟨by decide +kernel, rfl⟩
theorem d20_7 : DAt B20 7 (.iload_n 3) 1 8 := ⟨by decide +kernel, rfl⟩
theorem d20_8 : DAt B20 8 (.ifCond .eq 12) 3 11 := ⟨by decide +kernel, rfl⟩
theorem d20_11 : DAt B20 11 (.aload_n 0) 1 12 := ⟨by decide +kernel, rfl⟩
theorem d20_12 : DAt B20 12 (.iload_n 3) 1 13 := ⟨by decide +kernel, rfl⟩
theorem d20_13 : DAt B20 13 (.putfield 82) 3 16 := ⟨by decide +kernel, rfl⟩
theorem d20_16 : DAt B20 16 (.ldc2_w 98) 3 19 := ⟨by decide +kernel, rfl⟩
theorem d20_19 : DAt B20 19 (.lreturn) 1 20 := ⟨by decide +kernel, rfl⟩
theorem d20_20 : DAt B20 20 (.iload_n 2) 1 21 := ⟨by decide +kernel, rfl⟩
theorem d20_21 : DAt B20 21 (.iconst 4) 1 22 := ⟨by decide +kernel, rfl⟩
theorem d20_22 : DAt B20 22 (.idiv) 1 23 := ⟨by decide +kernel, rfl⟩
theorem d20_23 : DAt B20 23 (.istore 4) 2 25 := ⟨by decide +kernel, rfl⟩
theorem d20_25 : DAt B20 25 (.aload_n 0) 1 26 := ⟨by decide +kernel, rfl⟩
theorem d20_26 : DAt B20 26 (.iload_n 1) 1 27 := ⟨by decide +kernel, rfl⟩
theorem d20_27 : DAt B20 27 (.iload 4) 2 29 := ⟨by decide +kernel, rfl⟩
theorem d20_29 : DAt B20 29 (.invokevirtual 100) 3 32 := ⟨by decide +kernel, rfl⟩
theorem d20_32 : DAt B20 32 (.istore 5) 2 34 := ⟨by decide +kernel, rfl⟩
theorem d20_34 : DAt B20 34 (.aload_n 0) 1 35 := ⟨by decide +kernel, rfl⟩
theorem d20_35 : DAt B20 35 (.getfield 56) 3 38 := ⟨by decide +kernel, rfl⟩
theorem d20_38 : DAt B20 38 (.iload 5) 2 40 := ⟨by decide +kernel, rfl⟩
theorem d20_40 : DAt B20 40 (.iconst 4) 1 41 := ⟨by decide +kernel, rfl⟩
theorem d20_41 : DAt B20 41 (.imul) 1 42 := ⟨by decide +kernel, rfl⟩
theorem d20_42 : DAt B20 42 (.iload_n 2) 1 43 := ⟨by decide +kernel, rfl⟩
theorem d20_43 : DAt B20 43 (.iconst 4) 1 44 := ⟨by decide +kernel, rfl⟩
theorem d20_44 : DAt B20 44 (.irem) 1 45 := ⟨by decide +kernel, rfl⟩
theorem d20_45 : DAt B20 45 (.iadd) 1 46 := ⟨by decide +kernel, rfl⟩
theorem d20_46 : DAt B20 46 (.iaload) 1 47 := ⟨by decide +kernel, rfl⟩
theorem d20_47 : DAt B20 47 (.istore 6) 2 49 := ⟨by decide +kernel, rfl⟩
theorem d20_49 : DAt B20 49 (.aload_n 0) 1 50 := ⟨by decide +kernel, rfl⟩
theorem d20_50 : DAt B20 50 (.iload_n 1) 1 51 := ⟨by decide +kernel, rfl⟩
theorem d20_51 : DAt B20 51 (.iload 4) 2 53 := ⟨by decide +kernel, rfl⟩
theorem d20_53 : DAt B20 53 (.invokevirtual 103) 3 56 := ⟨by decide +kernel, rfl⟩
theorem d20_56 : DAt B20 56 (.aload_n 0) 1 57 := ⟨by decide +kernel, rfl⟩
theorem d20_57 : DAt B20 57 (.iload_n 1) 1 58 := ⟨by decide +kernel, rfl⟩
theorem d20_58 : DAt B20 58 (.invokevirtual 107) 3 61 := ⟨by decide +kernel, rfl⟩
theorem d20_61 : DAt B20 61 (.aload_n 0) 1 62 := ⟨by decide +kernel, rfl⟩
theorem d20_62 : DAt B20 62 (.iconst 0) 1 63 := ⟨by decide +kernel, rfl⟩
theorem d20_63 : DAt B20 63 (.putfield 82) 3 66 := ⟨by decide +kernel, rfl⟩
theorem d20_66 : DAt B20 66 (.iload 6) 2 68 := ⟨by decide +kernel, rfl⟩
theorem d20_68 : DAt B20 68 (.i2l) 1 69 := ⟨by decide +kernel, rfl⟩
theorem d20_69 : DAt B20 69 (.lreturn) 1 70 := ⟨by decide +kernel, rfl⟩
def B21 : Bdy := ((⟨"WsClockPager", "lastStatus", "()I"⟩ : MethodName), prog_1_method_5_code, 1, (some .int), ({ frames := 0, cells := 0, slots := 0, locals := 0 } : Room))
theorem d21_0 : DAt B21 0 (.aload_n 0) 1 1 := ⟨by decide +kernel, rfl⟩
theorem d21_1 : DAt B21 1 (.getfield 82) 3 4 := ⟨by decide +kernel, rfl⟩
theorem d21_4 : DAt B21 4 (.ireturn) 1 5 := ⟨by decide +kernel, rfl⟩
def B23 : Bdy := ((⟨"WsClockPager", "discardPage", "(I)V"⟩ : MethodName), prog_1_method_20_code, 4, none, ({ frames := 0, cells := 0, slots := 0, locals := 0 } : Room))
theorem d23_0 : DAt B23 0 (.aload_n 0) 1 1 := ⟨by decide +kernel, rfl⟩
theorem d23_1 : DAt B23 1 (.getfield 38) 3 4 := ⟨by decide +kernel, rfl⟩
theorem d23_4 : DAt B23 4 (.iload_n 1) 1 5 := ⟨by decide +kernel, rfl⟩
theorem d23_5 : DAt B23 5 (.iaload) 1 6 := ⟨by decide +kernel, rfl⟩
theorem d23_6 : DAt B23 6 (.istore_n 2) 1 7 := ⟨by decide +kernel, rfl⟩
theorem d23_7 : DAt B23 7 (.iload_n 2) 1 8 := ⟨by decide +kernel, rfl⟩
theorem d23_8 : DAt B23 8 (.ifCond .lt 31) 3 11 := ⟨by decide +kernel, rfl⟩
theorem d23_11 : DAt B23 11 (.aload_n 0) 1 12 := ⟨by decide +kernel, rfl⟩
theorem d23_12 : DAt B23 12 (.getfield 47) 3 15 := ⟨by decide +kernel, rfl⟩
theorem d23_15 : DAt B23 15 (.iload_n 2) 1 16 := ⟨by decide +kernel, rfl⟩
theorem d23_16 : DAt B23 16 (.iconst (-1)) 1 17 := ⟨by decide +kernel, rfl⟩
theorem d23_17 : DAt B23 17 (.iastore) 1 18 := ⟨by decide +kernel, rfl⟩
theorem d23_18 : DAt B23 18 (.aload_n 0) 1 19 := ⟨by decide +kernel, rfl⟩
theorem d23_19 : DAt B23 19 (.getfield 50) 3 22 := ⟨by decide +kernel, rfl⟩
theorem d23_22 : DAt B23 22 (.iload_n 2) 1 23 := ⟨by decide +kernel, rfl⟩
theorem d23_23 : DAt B23 23 (.iconst 0) 1 24 := ⟨by decide +kernel, rfl⟩
theorem d23_24 : DAt B23 24 (.bastore) 1 25 := ⟨by decide +kernel, rfl⟩
theorem d23_25 : DAt B23 25 (.aload_n 0) 1 26 := ⟨by decide +kernel, rfl⟩
theorem d23_26 : DAt B23 26 (.getfield 53) 3 29 := ⟨by decide +kernel, rfl⟩
theorem d23_29 : DAt B23 29 (.iload_n 2) 1 30 := ⟨by decide +kernel, rfl⟩
theorem d23_30 : DAt B23 30 (.iconst 0) 1 31 := ⟨by decide +kernel, rfl⟩
theorem d23_31 : DAt B23 31 (.bastore) 1 32 := ⟨by decide +kernel, rfl⟩
theorem d23_32 : DAt B23 32 (.aload_n 0) 1 33 := ⟨by decide +kernel, rfl⟩
theorem d23_33 : DAt B23 33 (.getfield 38) 3 36 := ⟨by decide +kernel, rfl⟩
theorem d23_36 : DAt B23 36 (.iload_n 1) 1 37 := ⟨by decide +kernel, rfl⟩
theorem d23_37 : DAt B23 37 (.iconst (-1)) 1 38 := ⟨by decide +kernel, rfl⟩
theorem d23_38 : DAt B23 38 (.iastore) 1 39 := ⟨by decide +kernel, rfl⟩
theorem d23_39 : DAt B23 39 (.aload_n 0) 1 40 := ⟨by decide +kernel, rfl⟩
theorem d23_40 : DAt B23 40 (.getfield 41) 3 43 := ⟨by decide +kernel, rfl⟩
theorem d23_43 : DAt B23 43 (.iload_n 1) 1 44 := ⟨by decide +kernel, rfl⟩
theorem d23_44 : DAt B23 44 (.iaload) 1 45 := ⟨by decide +kernel, rfl⟩
theorem d23_45 : DAt B23 45 (.istore_n 3) 1 46 := ⟨by decide +kernel, rfl⟩
theorem d23_46 : DAt B23 46 (.iload_n 3) 1 47 := ⟨by decide +kernel, rfl⟩
theorem d23_47 : DAt B23 47 (.ifCond .lt 17) 3 50 := ⟨by decide +kernel, rfl⟩
theorem d23_50 : DAt B23 50 (.aload_n 0) 1 51 := ⟨by decide +kernel, rfl⟩
theorem d23_51 : DAt B23 51 (.getfield 59) 3 54 := ⟨by decide +kernel, rfl⟩
theorem d23_54 : DAt B23 54 (.iload_n 3) 1 55 := ⟨by decide +kernel, rfl⟩
theorem d23_55 : DAt B23 55 (.iconst 0) 1 56 := ⟨by decide +kernel, rfl⟩
theorem d23_56 : DAt B23 56 (.bastore) 1 57 := ⟨by decide +kernel, rfl⟩
theorem d23_57 : DAt B23 57 (.aload_n 0) 1 58 := ⟨by decide +kernel, rfl⟩
theorem d23_58 : DAt B23 58 (.getfield 41) 3 61 := ⟨by decide +kernel, rfl⟩
theorem d23_61 : DAt B23 61 (.iload_n 1) 1 62 := ⟨by decide +kernel, rfl⟩
theorem d23_62 : DAt B23 62 (.iconst (-1)) 1 63 := ⟨by decide +kernel, rfl⟩
theorem d23_63 : DAt B23 63 (.iastore) 1 64 := ⟨by decide +kernel, rfl⟩
theorem d23_64 : DAt B23 64 (.aload_n 0) 1 65 := ⟨by decide +kernel, rfl⟩
theorem d23_65 : DAt B23 65 (.getfield 32) 3 68 := ⟨by decide +kernel, rfl⟩
theorem d23_68 : DAt B23 68 (.iload_n 1) 1 69 := ⟨by decide +kernel, rfl⟩
theorem d23_69 : DAt B23 69 (.iconst 0) 1 70 := ⟨by decide +kernel, rfl⟩
theorem d23_70 : DAt B23 70 (.iastore) 1 71 := ⟨by decide +kernel, rfl⟩
theorem d23_71 : DAt B23 71 (.aload_n 0) 1 72 := ⟨by decide +kernel, rfl⟩
theorem d23_72 : DAt B23 72 (.getfield 35) 3 75 := ⟨by decide +kernel, rfl⟩
theorem d23_75 : DAt B23 75 (.iload_n 1) 1 76 := ⟨by decide +kernel, rfl⟩
theorem d23_76 : DAt B23 76 (.iconst 0) 1 77 := ⟨by decide +kernel, rfl⟩
theorem d23_77 : DAt B23 77 (.bastore) 1 78 := ⟨by decide +kernel, rfl⟩
theorem d23_78 : DAt B23 78 (.aload_n 0) 1 79 := ⟨by decide +kernel, rfl⟩
theorem d23_79 : DAt B23 79 (.getfield 44) 3 82 := ⟨by decide +kernel, rfl⟩
theorem d23_82 : DAt B23 82 (.iload_n 1) 1 83 := ⟨by decide +kernel, rfl⟩
theorem d23_83 : DAt B23 83 (.iconst 0) 1 84 := ⟨by decide +kernel, rfl⟩
theorem d23_84 : DAt B23 84 (.iastore) 1 85 := ⟨by decide +kernel, rfl⟩
theorem d23_85 : DAt B23 85 (.return_) 1 86 := ⟨by decide +kernel, rfl⟩
def B22 : Bdy := ((⟨"WsClockPager", "release", "(I)I"⟩ : MethodName), prog_1_method_4_code, 3, (some .int), ({ frames := 2, cells := 0, slots := 0, locals := 30 } : Room))
theorem d22_0 : DAt B22 0 (.aload_n 0) 1 1 := ⟨by decide +kernel, rfl⟩
theorem d22_1 : DAt B22 1 (.iload_n 1) 1 2 := ⟨by decide +kernel, rfl⟩
theorem d22_2 : DAt B22 2 (.invokevirtual 111) 3 5 := ⟨by decide +kernel, rfl⟩
theorem d22_5 : DAt B22 5 (.ifCond .ne 10) 3 8 := ⟨by decide +kernel, rfl⟩
theorem d22_8 : DAt B22 8 (.aload_n 0) 1 9 := ⟨by decide +kernel, rfl⟩
theorem d22_9 : DAt B22 9 (.iconst 1) 1 10 := ⟨by decide +kernel, rfl⟩
theorem d22_10 : DAt B22 10 (.putfield 82) 3 13 := ⟨by decide +kernel, rfl⟩
theorem d22_13 : DAt B22 13 (.iconst 1) 1 14 := ⟨by decide +kernel, rfl⟩
theorem d22_14 : DAt B22 14 (.ireturn) 1 15 := ⟨by decide +kernel, rfl⟩
theorem d22_15 : DAt B22 15 (.iconst 0) 1 16 := ⟨by decide +kernel, rfl⟩
theorem d22_16 : DAt B22 16 (.istore_n 2) 1 17 := ⟨by decide +kernel, rfl⟩
theorem d22_17 : DAt B22 17 (.iload_n 2) 1 18 := ⟨by decide +kernel, rfl⟩
theorem d22_18 : DAt B22 18 (.aload_n 0) 1 19 := ⟨by decide +kernel, rfl⟩
theorem d22_19 : DAt B22 19 (.getfield 73) 3 22 := ⟨by decide +kernel, rfl⟩
theorem d22_22 : DAt B22 22 (.if_icmp .ge 19) 3 25 := ⟨by decide +kernel, rfl⟩
theorem d22_25 : DAt B22 25 (.aload_n 0) 1 26 := ⟨by decide +kernel, rfl⟩
theorem d22_26 : DAt B22 26 (.iload_n 1) 1 27 := ⟨by decide +kernel, rfl⟩
theorem d22_27 : DAt B22 27 (.bipush 16) 2 29 := ⟨by decide +kernel, rfl⟩
theorem d22_29 : DAt B22 29 (.imul) 1 30 := ⟨by decide +kernel, rfl⟩
theorem d22_30 : DAt B22 30 (.iload_n 2) 1 31 := ⟨by decide +kernel, rfl⟩
theorem d22_31 : DAt B22 31 (.iadd) 1 32 := ⟨by decide +kernel, rfl⟩
theorem d22_32 : DAt B22 32 (.invokevirtual 115) 3 35 := ⟨by decide +kernel, rfl⟩
theorem d22_35 : DAt B22 35 (.iinc 2 1) 3 38 := ⟨by decide +kernel, rfl⟩
theorem d22_38 : DAt B22 38 (.goto (-21)) 3 41 := ⟨by decide +kernel, rfl⟩
theorem d22_41 : DAt B22 41 (.aload_n 0) 1 42 := ⟨by decide +kernel, rfl⟩
theorem d22_42 : DAt B22 42 (.getfield 13) 3 45 := ⟨by decide +kernel, rfl⟩
theorem d22_45 : DAt B22 45 (.iload_n 1) 1 46 := ⟨by decide +kernel, rfl⟩
theorem d22_46 : DAt B22 46 (.iconst 0) 1 47 := ⟨by decide +kernel, rfl⟩
theorem d22_47 : DAt B22 47 (.iastore) 1 48 := ⟨by decide +kernel, rfl⟩
theorem d22_48 : DAt B22 48 (.aload_n 0) 1 49 := ⟨by decide +kernel, rfl⟩
theorem d22_49 : DAt B22 49 (.getfield 17) 3 52 := ⟨by decide +kernel, rfl⟩
theorem d22_52 : DAt B22 52 (.iload_n 1) 1 53 := ⟨by decide +kernel, rfl⟩
theorem d22_53 : DAt B22 53 (.iconst 0) 1 54 := ⟨by decide +kernel, rfl⟩
theorem d22_54 : DAt B22 54 (.iastore) 1 55 := ⟨by decide +kernel, rfl⟩
theorem d22_55 : DAt B22 55 (.aload_n 0) 1 56 := ⟨by decide +kernel, rfl⟩
theorem d22_56 : DAt B22 56 (.getfield 20) 3 59 := ⟨by decide +kernel, rfl⟩
theorem d22_59 : DAt B22 59 (.iload_n 1) 1 60 := ⟨by decide +kernel, rfl⟩
theorem d22_60 : DAt B22 60 (.iconst 0) 1 61 := ⟨by decide +kernel, rfl⟩
theorem d22_61 : DAt B22 61 (.iastore) 1 62 := ⟨by decide +kernel, rfl⟩
theorem d22_62 : DAt B22 62 (.aload_n 0) 1 63 := ⟨by decide +kernel, rfl⟩
theorem d22_63 : DAt B22 63 (.getfield 23) 3 66 := ⟨by decide +kernel, rfl⟩
theorem d22_66 : DAt B22 66 (.iload_n 1) 1 67 := ⟨by decide +kernel, rfl⟩
theorem d22_67 : DAt B22 67 (.iconst 0) 1 68 := ⟨by decide +kernel, rfl⟩
theorem d22_68 : DAt B22 68 (.iastore) 1 69 := ⟨by decide +kernel, rfl⟩
theorem d22_69 : DAt B22 69 (.aload_n 0) 1 70 := ⟨by decide +kernel, rfl⟩
theorem d22_70 : DAt B22 70 (.getfield 26) 3 73 := ⟨by decide +kernel, rfl⟩
theorem d22_73 : DAt B22 73 (.iload_n 1) 1 74 := ⟨by decide +kernel, rfl⟩
theorem d22_74 : DAt B22 74 (.iconst 0) 1 75 := ⟨by decide +kernel, rfl⟩
theorem d22_75 : DAt B22 75 (.iastore) 1 76 := ⟨by decide +kernel, rfl⟩
theorem d22_76 : DAt B22 76 (.aload_n 0) 1 77 := ⟨by decide +kernel, rfl⟩
theorem d22_77 : DAt B22 77 (.getfield 7) 3 80 := ⟨by decide +kernel, rfl⟩
theorem d22_80 : DAt B22 80 (.iload_n 1) 1 81 := ⟨by decide +kernel, rfl⟩
theorem d22_81 : DAt B22 81 (.iconst 0) 1 82 := ⟨by decide +kernel, rfl⟩
theorem d22_82 : DAt B22 82 (.bastore) 1 83 := ⟨by decide +kernel, rfl⟩
theorem d22_83 : DAt B22 83 (.aload_n 0) 1 84 := ⟨by decide +kernel, rfl⟩
theorem d22_84 : DAt B22 84 (.iload_n 1) 1 85 := ⟨by decide +kernel, rfl⟩
theorem d22_85 : DAt B22 85 (.invokevirtual 107) 3 88 := ⟨by decide +kernel, rfl⟩
theorem d22_88 : DAt B22 88 (.aload_n 0) 1 89 := ⟨by decide +kernel, rfl⟩
theorem d22_89 : DAt B22 89 (.iconst 0) 1 90 := ⟨by decide +kernel, rfl⟩
theorem d22_90 : DAt B22 90 (.putfield 82) 3 93 := ⟨by decide +kernel, rfl⟩
theorem d22_93 : DAt B22 93 (.iconst 0) 1 94 := ⟨by decide +kernel, rfl⟩
theorem d22_94 : DAt B22 94 (.ireturn) 1 95 := ⟨by decide +kernel, rfl⟩
def B24 : Bdy := ((⟨"WsClockPager", "readmissions", "()I"⟩ : MethodName), prog_1_method_12_code, 1, (some .int), ({ frames := 0, cells := 0, slots := 0, locals := 0 } : Room))
theorem d24_0 : DAt B24 0 (.aload_n 0) 1 1 := ⟨by decide +kernel, rfl⟩
theorem d24_1 : DAt B24 1 (.getfield 88) 3 4 := ⟨by decide +kernel, rfl⟩
theorem d24_4 : DAt B24 4 (.ireturn) 1 5 := ⟨by decide +kernel, rfl⟩
def B25 : Bdy := ((⟨"WsClockPager", "virtualTime", "(I)I"⟩ : MethodName), prog_1_method_7_code, 2, (some .int), ({ frames := 1, cells := 0, slots := 0, locals := 13 } : Room))
theorem d25_0 : DAt B25 0 (.aload_n 0) 1 1 := ⟨by decide +kernel, rfl⟩
theorem d25_1 : DAt B25 1 (.iload_n 1) 1 2 := ⟨by decide +kernel, rfl⟩
theorem d25_2 : DAt B25 2 (.invokevirtual 111) 3 5 := ⟨by decide +kernel, rfl⟩
theorem d25_5 : DAt B25 5 (.ifCond .ne 5) 3 8 := ⟨by decide +kernel, rfl⟩
theorem d25_8 : DAt B25 8 (.iconst 0) 1 9 := ⟨by decide +kernel, rfl⟩
theorem d25_9 : DAt B25 9 (.ireturn) 1 10 := ⟨by decide +kernel, rfl⟩
theorem d25_10 : DAt B25 10 (.aload_n 0) 1 11 := ⟨by decide +kernel, rfl⟩
theorem d25_11 : DAt B25 11 (.getfield 13) 3 14 := ⟨by decide +kernel, rfl⟩
theorem d25_14 : DAt B25 14 (.iload_n 1) 1 15 := ⟨by decide +kernel, rfl⟩
theorem d25_15 : DAt B25 15 (.iaload) 1 16 := ⟨by decide +kernel, rfl⟩
theorem d25_16 : DAt B25 16 (.ireturn) 1 17 := ⟨by decide +kernel, rfl⟩
def B26 : Bdy := ((⟨"WsClockPager", "workingSetSize", "(I)I"⟩ : MethodName), prog_1_method_8_code, 2, (some .int), ({ frames := 1, cells := 0, slots := 0, locals := 13 } : Room))
theorem d26_0 : DAt B26 0 (.aload_n 0) 1 1 := ⟨by decide +kernel, rfl⟩
theorem d26_1 : DAt B26 1 (.iload_n 1) 1 2 := ⟨by decide +kernel, rfl⟩
theorem d26_2 : DAt B26 2 (.invokevirtual 111) 3 5 := ⟨by decide +kernel, rfl⟩
theorem d26_5 : DAt B26 5 (.ifCond .ne 5) 3 8 := ⟨by decide +kernel, rfl⟩
theorem d26_8 : DAt B26 8 (.iconst 0) 1 9 := ⟨by decide +kernel, rfl⟩
theorem d26_9 : DAt B26 9 (.ireturn) 1 10 := ⟨by decide +kernel, rfl⟩
theorem d26_10 : DAt B26 10 (.aload_n 0) 1 11 := ⟨by decide +kernel, rfl⟩
theorem d26_11 : DAt B26 11 (.getfield 23) 3 14 := ⟨by decide +kernel, rfl⟩
theorem d26_14 : DAt B26 14 (.iload_n 1) 1 15 := ⟨by decide +kernel, rfl⟩
theorem d26_15 : DAt B26 15 (.iaload) 1 16 := ⟨by decide +kernel, rfl⟩
theorem d26_16 : DAt B26 16 (.ireturn) 1 17 := ⟨by decide +kernel, rfl⟩
def B28 : Bdy := ((⟨"WsClockPager", "readWord", "(II)I"⟩ : MethodName), prog_1_method_19_code, 5, (some .int), ({ frames := 0, cells := 0, slots := 0, locals := 0 } : Room))
theorem d28_0 : DAt B28 0 (.aload_n 0) 1 1 := ⟨by decide +kernel, rfl⟩
theorem d28_1 : DAt B28 1 (.getfield 38) 3 4 := ⟨by decide +kernel, rfl⟩
theorem d28_4 : DAt B28 4 (.iload_n 1) 1 5 := ⟨by decide +kernel, rfl⟩
theorem d28_5 : DAt B28 5 (.iaload) 1 6 := ⟨by decide +kernel, rfl⟩
theorem d28_6 : DAt B28 6 (.istore_n 3) 1 7 := ⟨by decide +kernel, rfl⟩
theorem d28_7 : DAt B28 7 (.iload_n 3) 1 8 := ⟨by decide +kernel, rfl⟩
theorem d28_8 : DAt B28 8 (.ifCond .lt 14) 3 11 := ⟨by decide +kernel, rfl⟩
theorem d28_11 : DAt B28 11 (.aload_n 0) 1 12 := ⟨by decide +kernel, rfl⟩
theorem d28_12 : DAt B28 12 (.getfield 56) 3 15 := ⟨by decide +kernel, rfl⟩
theorem d28_15 : DAt B28 15 (.iload_n 3) 1 16 := ⟨by decide +kernel, rfl⟩
theorem d28_16 : DAt B28 16 (.iconst 4) 1 17 := ⟨by decide +kernel, rfl⟩
theorem d28_17 : DAt B28 17 (.imul) 1 18 := ⟨by decide +kernel, rfl⟩
theorem d28_18 : DAt B28 18 (.iload_n 2) 1 19 := ⟨by decide +kernel, rfl⟩
theorem d28_19 : DAt B28 19 (.iadd) 1 20 := ⟨by decide +kernel, rfl⟩
theorem d28_20 : DAt B28 20 (.iaload) 1 21 := ⟨by decide +kernel, rfl⟩
theorem d28_21 : DAt B28 21 (.ireturn) 1 22 := ⟨by decide +kernel, rfl⟩
theorem d28_22 : DAt B28 22 (.aload_n 0) 1 23 := ⟨by decide +kernel, rfl⟩
theorem d28_23 : DAt B28 23 (.getfield 41) 3 26 := ⟨by decide +kernel, rfl⟩
theorem d28_26 : DAt B28 26 (.iload_n 1) 1 27 := ⟨by decide +kernel, rfl⟩
theorem d28_27 : DAt B28 27 (.iaload) 1 28 := ⟨by decide +kernel, rfl⟩
theorem d28_28 : DAt B28 28 (.istore 4) 2 30 := ⟨by decide +kernel, rfl⟩
theorem d28_30 : DAt B28 30 (.iload 4) 2 32 := ⟨by decide +kernel, rfl⟩
theorem d28_32 : DAt B28 32 (.ifCond .lt 15) 3 35 := ⟨by decide +kernel, rfl⟩
theorem d28_35 : DAt B28 35 (.aload_n 0) 1 36 := ⟨by decide +kernel, rfl⟩
theorem d28_36 : DAt B28 36 (.getfield 62) 3 39 := ⟨by decide +kernel, rfl⟩
theorem d28_39 : DAt B28 39 (.iload 4) 2 41 := ⟨by decide +kernel, rfl⟩
theorem d28_41 : DAt B28 41 (.iconst 4) 1 42 := ⟨by decide +kernel, rfl⟩
theorem d28_42 : DAt B28 42 (.imul) 1 43 := ⟨by decide +kernel, rfl⟩
theorem d28_43 : DAt B28 43 (.iload_n 2) 1 44 := ⟨by decide +kernel, rfl⟩
theorem d28_44 : DAt B28 44 (.iadd) 1 45 := ⟨by decide +kernel, rfl⟩
theorem d28_45 : DAt B28 45 (.iaload) 1 46 := ⟨by decide +kernel, rfl⟩
theorem d28_46 : DAt B28 46 (.ireturn) 1 47 := ⟨by decide +kernel, rfl⟩
theorem d28_47 : DAt B28 47 (.iconst 0) 1 48 := ⟨by decide +kernel, rfl⟩
theorem d28_48 : DAt B28 48 (.ireturn) 1 49 := ⟨by decide +kernel, rfl⟩
def B27 : Bdy := ((⟨"WsClockPager", "memorySum", "(I)I"⟩ : MethodName), prog_1_method_14_code, 6, (some .int), ({ frames := 1, cells := 0, slots := 0, locals := 17 } : Room))
theorem d27_0 : DAt B27 0 (.aload_n 0) 1 1 := ⟨by decide +kernel, rfl⟩
theorem d27_1 : DAt B27 1 (.iload_n 1) 1 2 := ⟨by decide +kernel, rfl⟩
theorem d27_2 : DAt B27 2 (.invokevirtual 111) 3 5 := ⟨by decide +kernel, rfl⟩
theorem d27_5 : DAt B27 5 (.ifCond .ne 5) 3 8 := ⟨by decide +kernel, rfl⟩
theorem d27_8 : DAt B27 8 (.iconst 0) 1 9 := ⟨by decide +kernel, rfl⟩
theorem d27_9 : DAt B27 9 (.ireturn) 1 10 := ⟨by decide +kernel, rfl⟩
theorem d27_10 : DAt B27 10 (.iconst 0) 1 11 := ⟨by decide +kernel, rfl⟩
theorem d27_11 : DAt B27 11 (.istore_n 2) 1 12 := ⟨by decide +kernel, rfl⟩
theorem d27_12 : DAt B27 12 (.iconst 0) 1 13 := ⟨by decide +kernel, rfl⟩
theorem d27_13 : DAt B27 13 (.istore_n 3) 1 14 := ⟨by decide +kernel, rfl⟩
theorem d27_14 : DAt B27 14 (.iload_n 3) 1 15 := ⟨by decide +kernel, rfl⟩
theorem d27_15 : DAt B27 15 (.aload_n 0) 1 16 := ⟨by decide +kernel, rfl⟩
theorem d27_16 : DAt B27 16 (.getfield 73) 3 19 := ⟨by decide +kernel, rfl⟩
theorem d27_19 : DAt B27 19 (.if_icmp .ge 43) 3 22 := ⟨by decide +kernel, rfl⟩
theorem d27_22 : DAt B27 22 (.iload_n 1) 1 23 := ⟨by decide +kernel, rfl⟩
theorem d27_23 : DAt B27 23 (.bipush 16) 2 25 := ⟨by decide +kernel, rfl⟩
theorem d27_25 : DAt B27 25 (.imul) 1 26 := ⟨by decide +kernel, rfl⟩
theorem d27_26 : DAt B27 26 (.iload_n 3) 1 27 := ⟨by decide +kernel, rfl⟩
theorem d27_27 : DAt B27 27 (.iadd) 1 28 := ⟨by decide +kernel, rfl⟩
theorem d27_28 : DAt B27 28 (.istore 4) 2 30 := ⟨by decide +kernel, rfl⟩
theorem d27_30 : DAt B27 30 (.iconst 0) 1 31 := ⟨by decide +kernel, rfl⟩
theorem d27_31 : DAt B27 31 (.istore 5) 2 33 := ⟨by decide +kernel, rfl⟩
theorem d27_33 : DAt B27 33 (.iload 5) 2 35 := ⟨by decide +kernel, rfl⟩
theorem d27_35 : DAt B27 35 (.iconst 4) 1 36 := ⟨by decide +kernel, rfl⟩
theorem d27_36 : DAt B27 36 (.if_icmp .ge 20) 3 39 := ⟨by decide +kernel, rfl⟩
theorem d27_39 : DAt B27 39 (.iload_n 2) 1 40 := ⟨by decide +kernel, rfl⟩
theorem d27_40 : DAt B27 40 (.aload_n 0) 1 41 := ⟨by decide +kernel, rfl⟩
theorem d27_41 : DAt B27 41 (.iload 4) 2 43 := ⟨by decide +kernel, rfl⟩
theorem d27_43 : DAt B27 43 (.iload 5) 2 45 := ⟨by decide +kernel, rfl⟩
theorem d27_45 : DAt B27 45 (.invokevirtual 118) 3 48 := ⟨by decide +kernel, rfl⟩
theorem d27_48 : DAt B27 48 (.iadd) 1 49 := ⟨by decide +kernel, rfl⟩
theorem d27_49 : DAt B27 49 (.istore_n 2) 1 50 := ⟨by decide +kernel, rfl⟩
theorem d27_50 : DAt B27 50 (.iinc 5 1) 3 53 := ⟨by decide +kernel, rfl⟩
theorem d27_53 : DAt B27 53 (.goto (-20)) 3 56 := ⟨by decide +kernel, rfl⟩
theorem d27_56 : DAt B27 56 (.iinc 3 1) 3 59 := ⟨by decide +kernel, rfl⟩
theorem d27_59 : DAt B27 59 (.goto (-45)) 3 62 := ⟨by decide +kernel, rfl⟩
theorem d27_62 : DAt B27 62 (.iload_n 2) 1 63 := ⟨by decide +kernel, rfl⟩
theorem d27_63 : DAt B27 63 (.ireturn) 1 64 := ⟨by decide +kernel, rfl⟩
def B0 : Bdy := (x, code, maxLocals, ret, room_1)
theorem d0_0 : DAt B0 0 (.new 7) 3 3 := ⟨at_0, rfl⟩
theorem d0_3 : DAt B0 3 (.dup) 1 4 := ⟨at_3, rfl⟩
theorem d0_4 : DAt B0 4 (.iconst 2) 1 5 := ⟨at_4, rfl⟩
theorem d0_5 : DAt B0 5 (.bipush 16) 2 7 := ⟨at_5, rfl⟩
theorem d0_7 : DAt B0 7 (.iconst 4) 1 8 := ⟨at_7, rfl⟩
theorem d0_8 : DAt B0 8 (.bipush 8) 2 10 := ⟨at_8, rfl⟩
theorem d0_10 : DAt B0 10 (.invokespecial 9) 3 13 := ⟨at_10, rfl⟩
theorem d0_13 : DAt B0 13 (.astore 6) 2 15 := ⟨at_13, rfl⟩
theorem d0_15 : DAt B0 15 (.iload_n 0) 1 16 := ⟨at_15, rfl⟩
theorem d0_16 : DAt B0 16 (.bipush 15) 2 18 := ⟨at_16, rfl⟩
theorem d0_18 : DAt B0 18 (.iand) 1 19 := ⟨at_18, rfl⟩
theorem d0_19 : DAt B0 19 (.istore 7) 2 21 := ⟨at_19, rfl⟩
theorem d0_21 : DAt B0 21 (.iload_n 1) 1 22 := ⟨at_21, rfl⟩
theorem d0_22 : DAt B0 22 (.bipush 15) 2 24 := ⟨at_22, rfl⟩
theorem d0_24 : DAt B0 24 (.iand) 1 25 := ⟨at_24, rfl⟩
theorem d0_25 : DAt B0 25 (.istore 8) 2 27 := ⟨at_25, rfl⟩
theorem d0_27 : DAt B0 27 (.iload_n 2) 1 28 := ⟨at_27, rfl⟩
theorem d0_28 : DAt B0 28 (.bipush 15) 2 30 := ⟨at_28, rfl⟩
theorem d0_30 : DAt B0 30 (.iand) 1 31 := ⟨at_30, rfl⟩
theorem d0_31 : DAt B0 31 (.istore 9) 2 33 := ⟨at_31, rfl⟩
theorem d0_33 : DAt B0 33 (.iload_n 3) 1 34 := ⟨at_33, rfl⟩
theorem d0_34 : DAt B0 34 (.bipush 15) 2 36 := ⟨at_34, rfl⟩
theorem d0_36 : DAt B0 36 (.iand) 1 37 := ⟨at_36, rfl⟩
theorem d0_37 : DAt B0 37 (.istore 10) 2 39 := ⟨at_37, rfl⟩
theorem d0_39 : DAt B0 39 (.iload 4) 2 41 := ⟨at_39, rfl⟩
theorem d0_41 : DAt B0 41 (.bipush 15) 2 43 := ⟨at_41, rfl⟩
theorem d0_43 : DAt B0 43 (.iand) 1 44 := ⟨at_43, rfl⟩
theorem d0_44 : DAt B0 44 (.istore 11) 2 46 := ⟨at_44, rfl⟩
theorem d0_46 : DAt B0 46 (.iload 7) 2 48 := ⟨at_46, rfl⟩
theorem d0_48 : DAt B0 48 (.iload 8) 2 50 := ⟨at_48, rfl⟩
theorem d0_50 : DAt B0 50 (.if_icmp .ne 7) 3 53 := ⟨at_50, rfl⟩
theorem d0_53 : DAt B0 53 (.iconst 1) 1 54 := ⟨at_53, rfl⟩
theorem d0_54 : DAt B0 54 (.goto 4) 3 57 := ⟨at_54, rfl⟩
theorem d0_57 : DAt B0 57 (.iconst 2) 1 58 := ⟨at_57, rfl⟩
theorem d0_58 : DAt B0 58 (.istore 12) 2 60 := ⟨at_58, rfl⟩
theorem d0_60 : DAt B0 60 (.iconst 1) 1 61 := ⟨at_60, rfl⟩
theorem d0_61 : DAt B0 61 (.istore 13) 2 63 := ⟨at_61, rfl⟩
theorem d0_63 : DAt B0 63 (.iload 10) 2 65 := ⟨at_63, rfl⟩
theorem d0_65 : DAt B0 65 (.iload 9) 2 67 := ⟨at_65, rfl⟩
theorem d0_67 : DAt B0 67 (.if_icmp .eq 6) 3 70 := ⟨at_67, rfl⟩
theorem d0_70 : DAt B0 70 (.iinc 13 1) 3 73 := ⟨at_70, rfl⟩
theorem d0_73 : DAt B0 73 (.iload 11) 2 75 := ⟨at_73, rfl⟩
theorem d0_75 : DAt B0 75 (.iload 9) 2 77 := ⟨at_75, rfl⟩
theorem d0_77 : DAt B0 77 (.if_icmp .eq 13) 3 80 := ⟨at_77, rfl⟩
theorem d0_80 : DAt B0 80 (.iload 11) 2 82 := ⟨at_80, rfl⟩
theorem d0_82 : DAt B0 82 (.iload 10) 2 84 := ⟨at_82, rfl⟩
theorem d0_84 : DAt B0 84 (.if_icmp .eq 6) 3 87 := ⟨at_84, rfl⟩
theorem d0_87 : DAt B0 87 (.iinc 13 1) 3 90 := ⟨at_87, rfl⟩
theorem d0_90 : DAt B0 90 (.iload 12) 2 92 := ⟨at_90, rfl⟩
theorem d0_92 : DAt B0 92 (.iload 13) 2 94 := ⟨at_92, rfl⟩
theorem d0_94 : DAt B0 94 (.iadd) 1 95 := ⟨at_94, rfl⟩
theorem d0_95 : DAt B0 95 (.iconst 4) 1 96 := ⟨at_95, rfl⟩
theorem d0_96 : DAt B0 96 (.if_icmp .le 7) 3 99 := ⟨at_96, rfl⟩
theorem d0_99 : DAt B0 99 (.iconst 1) 1 100 := ⟨at_99, rfl⟩
theorem d0_100 : DAt B0 100 (.goto 4) 3 103 := ⟨at_100, rfl⟩
theorem d0_103 : DAt B0 103 (.iconst 0) 1 104 := ⟨at_103, rfl⟩
theorem d0_104 : DAt B0 104 (.istore 14) 2 106 := ⟨at_104, rfl⟩
theorem d0_106 : DAt B0 106 (.iload 14) 2 108 := ⟨at_106, rfl⟩
theorem d0_108 : DAt B0 108 (.ifCond .eq 7) 3 111 := ⟨at_108, rfl⟩
theorem d0_111 : DAt B0 111 (.iconst 1) 1 112 := ⟨at_111, rfl⟩
theorem d0_112 : DAt B0 112 (.goto 4) 3 115 := ⟨at_112, rfl⟩
theorem d0_115 : DAt B0 115 (.iconst 0) 1 116 := ⟨at_115, rfl⟩
theorem d0_116 : DAt B0 116 (.istore 15) 2 118 := ⟨at_116, rfl⟩
theorem d0_118 : DAt B0 118 (.aload 6) 2 120 := ⟨at_118, rfl⟩
theorem d0_120 : DAt B0 120 (.iconst 1) 1 121 := ⟨at_120, rfl⟩
theorem d0_121 : DAt B0 121 (.iconst 4) 1 122 := ⟨at_121, rfl⟩
theorem d0_122 : DAt B0 122 (.iload 7) 2 124 := ⟨at_122, rfl⟩
theorem d0_124 : DAt B0 124 (.imul) 1 125 := ⟨at_124, rfl⟩
theorem d0_125 : DAt B0 125 (.iload 5) 2 127 := ⟨at_125, rfl⟩
theorem d0_127 : DAt B0 127 (.invokevirtual 12) 3 130 := ⟨at_127, rfl⟩
theorem d0_130 : DAt B0 130 (.ifCond .eq 5) 3 133 := ⟨at_130, rfl⟩
theorem d0_133 : DAt B0 133 (.iconst 0) 1 134 := ⟨at_133, rfl⟩
theorem d0_134 : DAt B0 134 (.ireturn) 1 135 := ⟨at_134, rfl⟩
theorem d0_135 : DAt B0 135 (.aload 6) 2 137 := ⟨at_135, rfl⟩
theorem d0_137 : DAt B0 137 (.iconst 1) 1 138 := ⟨at_137, rfl⟩
theorem d0_138 : DAt B0 138 (.iconst 4) 1 139 := ⟨at_138, rfl⟩
theorem d0_139 : DAt B0 139 (.iload 8) 2 141 := ⟨at_139, rfl⟩
theorem d0_141 : DAt B0 141 (.imul) 1 142 := ⟨at_141, rfl⟩
theorem d0_142 : DAt B0 142 (.iconst 1) 1 143 := ⟨at_142, rfl⟩
theorem d0_143 : DAt B0 143 (.iadd) 1 144 := ⟨at_143, rfl⟩
theorem d0_144 : DAt B0 144 (.iload 5) 2 146 := ⟨at_144, rfl⟩
theorem d0_146 : DAt B0 146 (.iconst 1) 1 147 := ⟨at_146, rfl⟩
theorem d0_147 : DAt B0 147 (.iadd) 1 148 := ⟨at_147, rfl⟩
theorem d0_148 : DAt B0 148 (.invokevirtual 12) 3 151 := ⟨at_148, rfl⟩
theorem d0_151 : DAt B0 151 (.ifCond .eq 5) 3 154 := ⟨at_151, rfl⟩
theorem d0_154 : DAt B0 154 (.iconst 0) 1 155 := ⟨at_154, rfl⟩
theorem d0_155 : DAt B0 155 (.ireturn) 1 156 := ⟨at_155, rfl⟩
theorem d0_156 : DAt B0 156 (.aload 6) 2 158 := ⟨at_156, rfl⟩
theorem d0_158 : DAt B0 158 (.iconst 0) 1 159 := ⟨at_158, rfl⟩
theorem d0_159 : DAt B0 159 (.iconst 4) 1 160 := ⟨at_159, rfl⟩
theorem d0_160 : DAt B0 160 (.iload 9) 2 162 := ⟨at_160, rfl⟩
theorem d0_162 : DAt B0 162 (.imul) 1 163 := ⟨at_162, rfl⟩
theorem d0_163 : DAt B0 163 (.iconst 2) 1 164 := ⟨at_163, rfl⟩
theorem d0_164 : DAt B0 164 (.iadd) 1 165 := ⟨at_164, rfl⟩
theorem d0_165 : DAt B0 165 (.iload 5) 2 167 := ⟨at_165, rfl⟩
theorem d0_167 : DAt B0 167 (.invokevirtual 12) 3 170 := ⟨at_167, rfl⟩
theorem d0_170 : DAt B0 170 (.ifCond .eq 5) 3 173 := ⟨at_170, rfl⟩
theorem d0_173 : DAt B0 173 (.iconst 0) 1 174 := ⟨at_173, rfl⟩
theorem d0_174 : DAt B0 174 (.ireturn) 1 175 := ⟨at_174, rfl⟩
theorem d0_175 : DAt B0 175 (.aload 6) 2 177 := ⟨at_175, rfl⟩
theorem d0_177 : DAt B0 177 (.iconst 0) 1 178 := ⟨at_177, rfl⟩
theorem d0_178 : DAt B0 178 (.iconst 4) 1 179 := ⟨at_178, rfl⟩
theorem d0_179 : DAt B0 179 (.iload 10) 2 181 := ⟨at_179, rfl⟩
theorem d0_181 : DAt B0 181 (.imul) 1 182 := ⟨at_181, rfl⟩
theorem d0_182 : DAt B0 182 (.iconst 2) 1 183 := ⟨at_182, rfl⟩
theorem d0_183 : DAt B0 183 (.iadd) 1 184 := ⟨at_183, rfl⟩
theorem d0_184 : DAt B0 184 (.iload 5) 2 186 := ⟨at_184, rfl⟩
theorem d0_186 : DAt B0 186 (.invokevirtual 12) 3 189 := ⟨at_186, rfl⟩
theorem d0_189 : DAt B0 189 (.ifCond .eq 5) 3 192 := ⟨at_189, rfl⟩
theorem d0_192 : DAt B0 192 (.iconst 0) 1 193 := ⟨at_192, rfl⟩
theorem d0_193 : DAt B0 193 (.ireturn) 1 194 := ⟨at_193, rfl⟩
theorem d0_194 : DAt B0 194 (.aload 6) 2 196 := ⟨at_194, rfl⟩
theorem d0_196 : DAt B0 196 (.iconst 0) 1 197 := ⟨at_196, rfl⟩
theorem d0_197 : DAt B0 197 (.iconst 4) 1 198 := ⟨at_197, rfl⟩
theorem d0_198 : DAt B0 198 (.iload 11) 2 200 := ⟨at_198, rfl⟩
theorem d0_200 : DAt B0 200 (.imul) 1 201 := ⟨at_200, rfl⟩
theorem d0_201 : DAt B0 201 (.iconst 2) 1 202 := ⟨at_201, rfl⟩
theorem d0_202 : DAt B0 202 (.iadd) 1 203 := ⟨at_202, rfl⟩
theorem d0_203 : DAt B0 203 (.iload 5) 2 205 := ⟨at_203, rfl⟩
theorem d0_205 : DAt B0 205 (.invokevirtual 12) 3 208 := ⟨at_205, rfl⟩
theorem d0_208 : DAt B0 208 (.ifCond .eq 5) 3 211 := ⟨at_208, rfl⟩
theorem d0_211 : DAt B0 211 (.iconst 0) 1 212 := ⟨at_211, rfl⟩
theorem d0_212 : DAt B0 212 (.ireturn) 1 213 := ⟨at_212, rfl⟩
theorem d0_213 : DAt B0 213 (.aload 6) 2 215 := ⟨at_213, rfl⟩
theorem d0_215 : DAt B0 215 (.iconst 1) 1 216 := ⟨at_215, rfl⟩
theorem d0_216 : DAt B0 216 (.invokevirtual 16) 3 219 := ⟨at_216, rfl⟩
theorem d0_219 : DAt B0 219 (.iload 14) 2 221 := ⟨at_219, rfl⟩
theorem d0_221 : DAt B0 221 (.if_icmp .eq 5) 3 224 := ⟨at_221, rfl⟩
theorem d0_224 : DAt B0 224 (.iconst 0) 1 225 := ⟨at_224, rfl⟩
theorem d0_225 : DAt B0 225 (.ireturn) 1 226 := ⟨at_225, rfl⟩
theorem d0_226 : DAt B0 226 (.aload 6) 2 228 := ⟨at_226, rfl⟩
theorem d0_228 : DAt B0 228 (.invokevirtual 20) 3 231 := ⟨at_228, rfl⟩
theorem d0_231 : DAt B0 231 (.iload 14) 2 233 := ⟨at_231, rfl⟩
theorem d0_233 : DAt B0 233 (.ifCond .eq 8) 3 236 := ⟨at_233, rfl⟩
theorem d0_236 : DAt B0 236 (.iload 13) 2 238 := ⟨at_236, rfl⟩
theorem d0_238 : DAt B0 238 (.goto 8) 3 241 := ⟨at_238, rfl⟩
theorem d0_241 : DAt B0 241 (.iload 13) 2 243 := ⟨at_241, rfl⟩
theorem d0_243 : DAt B0 243 (.iload 12) 2 245 := ⟨at_243, rfl⟩
theorem d0_245 : DAt B0 245 (.iadd) 1 246 := ⟨at_245, rfl⟩
theorem d0_246 : DAt B0 246 (.if_icmp .eq 5) 3 249 := ⟨at_246, rfl⟩
theorem d0_249 : DAt B0 249 (.iconst 0) 1 250 := ⟨at_249, rfl⟩
theorem d0_250 : DAt B0 250 (.ireturn) 1 251 := ⟨at_250, rfl⟩
theorem d0_251 : DAt B0 251 (.aload 6) 2 253 := ⟨at_251, rfl⟩
theorem d0_253 : DAt B0 253 (.invokevirtual 24) 3 256 := ⟨at_253, rfl⟩
theorem d0_256 : DAt B0 256 (.iload 15) 2 258 := ⟨at_256, rfl⟩
theorem d0_258 : DAt B0 258 (.if_icmp .eq 5) 3 261 := ⟨at_258, rfl⟩
theorem d0_261 : DAt B0 261 (.iconst 0) 1 262 := ⟨at_261, rfl⟩
theorem d0_262 : DAt B0 262 (.ireturn) 1 263 := ⟨at_262, rfl⟩
theorem d0_263 : DAt B0 263 (.aload 6) 2 265 := ⟨at_263, rfl⟩
theorem d0_265 : DAt B0 265 (.iconst 1) 1 266 := ⟨at_265, rfl⟩
theorem d0_266 : DAt B0 266 (.iconst 4) 1 267 := ⟨at_266, rfl⟩
theorem d0_267 : DAt B0 267 (.iload 7) 2 269 := ⟨at_267, rfl⟩
theorem d0_269 : DAt B0 269 (.imul) 1 270 := ⟨at_269, rfl⟩
theorem d0_270 : DAt B0 270 (.invokevirtual 27) 3 273 := ⟨at_270, rfl⟩
theorem d0_273 : DAt B0 273 (.lstore 16) 2 275 := ⟨at_273, rfl⟩
theorem d0_275 : DAt B0 275 (.lload 16) 2 277 := ⟨at_275, rfl⟩
theorem d0_277 : DAt B0 277 (.iload 14) 2 279 := ⟨at_277, rfl⟩
theorem d0_279 : DAt B0 279 (.ifCond .eq 9) 3 282 := ⟨at_279, rfl⟩
theorem d0_282 : DAt B0 282 (.ldc2_w 31) 3 285 := ⟨at_282, rfl⟩
theorem d0_285 : DAt B0 285 (.goto 6) 3 288 := ⟨at_285, rfl⟩
theorem d0_288 : DAt B0 288 (.iload 5) 2 290 := ⟨at_288, rfl⟩
theorem d0_290 : DAt B0 290 (.i2l) 1 291 := ⟨at_290, rfl⟩
theorem d0_291 : DAt B0 291 (.lcmp) 1 292 := ⟨at_291, rfl⟩
theorem d0_292 : DAt B0 292 (.ifCond .eq 5) 3 295 := ⟨at_292, rfl⟩
theorem d0_295 : DAt B0 295 (.iconst 0) 1 296 := ⟨at_295, rfl⟩
theorem d0_296 : DAt B0 296 (.ireturn) 1 297 := ⟨at_296, rfl⟩
theorem d0_297 : DAt B0 297 (.aload 6) 2 299 := ⟨at_297, rfl⟩
theorem d0_299 : DAt B0 299 (.invokevirtual 33) 3 302 := ⟨at_299, rfl⟩
theorem d0_302 : DAt B0 302 (.iload 14) 2 304 := ⟨at_302, rfl⟩
theorem d0_304 : DAt B0 304 (.ifCond .eq 7) 3 307 := ⟨at_304, rfl⟩
theorem d0_307 : DAt B0 307 (.iconst 3) 1 308 := ⟨at_307, rfl⟩
theorem d0_308 : DAt B0 308 (.goto 4) 3 311 := ⟨at_308, rfl⟩
theorem d0_311 : DAt B0 311 (.iconst 0) 1 312 := ⟨at_311, rfl⟩
theorem d0_312 : DAt B0 312 (.if_icmp .eq 5) 3 315 := ⟨at_312, rfl⟩
theorem d0_315 : DAt B0 315 (.iconst 0) 1 316 := ⟨at_315, rfl⟩
theorem d0_316 : DAt B0 316 (.ireturn) 1 317 := ⟨at_316, rfl⟩
theorem d0_317 : DAt B0 317 (.aload 6) 2 319 := ⟨at_317, rfl⟩
theorem d0_319 : DAt B0 319 (.iconst 0) 1 320 := ⟨at_319, rfl⟩
theorem d0_320 : DAt B0 320 (.invokevirtual 36) 3 323 := ⟨at_320, rfl⟩
theorem d0_323 : DAt B0 323 (.ifCond .eq 5) 3 326 := ⟨at_323, rfl⟩
theorem d0_326 : DAt B0 326 (.iconst 0) 1 327 := ⟨at_326, rfl⟩
theorem d0_327 : DAt B0 327 (.ireturn) 1 328 := ⟨at_327, rfl⟩
theorem d0_328 : DAt B0 328 (.aload 6) 2 330 := ⟨at_328, rfl⟩
theorem d0_330 : DAt B0 330 (.iconst 1) 1 331 := ⟨at_330, rfl⟩
theorem d0_331 : DAt B0 331 (.invokevirtual 16) 3 334 := ⟨at_331, rfl⟩
theorem d0_334 : DAt B0 334 (.ifCond .eq 5) 3 337 := ⟨at_334, rfl⟩
theorem d0_337 : DAt B0 337 (.iconst 0) 1 338 := ⟨at_337, rfl⟩
theorem d0_338 : DAt B0 338 (.ireturn) 1 339 := ⟨at_338, rfl⟩
theorem d0_339 : DAt B0 339 (.aload 6) 2 341 := ⟨at_339, rfl⟩
theorem d0_341 : DAt B0 341 (.invokevirtual 40) 3 344 := ⟨at_341, rfl⟩
theorem d0_344 : DAt B0 344 (.iload 15) 2 346 := ⟨at_344, rfl⟩
theorem d0_346 : DAt B0 346 (.if_icmp .eq 5) 3 349 := ⟨at_346, rfl⟩
theorem d0_349 : DAt B0 349 (.iconst 0) 1 350 := ⟨at_349, rfl⟩
theorem d0_350 : DAt B0 350 (.ireturn) 1 351 := ⟨at_350, rfl⟩
theorem d0_351 : DAt B0 351 (.aload 6) 2 353 := ⟨at_351, rfl⟩
theorem d0_353 : DAt B0 353 (.invokevirtual 24) 3 356 := ⟨at_353, rfl⟩
theorem d0_356 : DAt B0 356 (.iload 15) 2 358 := ⟨at_356, rfl⟩
theorem d0_358 : DAt B0 358 (.if_icmp .eq 5) 3 361 := ⟨at_358, rfl⟩
theorem d0_361 : DAt B0 361 (.iconst 0) 1 362 := ⟨at_361, rfl⟩
theorem d0_362 : DAt B0 362 (.ireturn) 1 363 := ⟨at_362, rfl⟩
theorem d0_363 : DAt B0 363 (.aload 6) 2 365 := ⟨at_363, rfl⟩
theorem d0_365 : DAt B0 365 (.iconst 1) 1 366 := ⟨at_365, rfl⟩
theorem d0_366 : DAt B0 366 (.iconst 4) 1 367 := ⟨at_366, rfl⟩
theorem d0_367 : DAt B0 367 (.iload 8) 2 369 := ⟨at_367, rfl⟩
theorem d0_369 : DAt B0 369 (.imul) 1 370 := ⟨at_369, rfl⟩
theorem d0_370 : DAt B0 370 (.iconst 1) 1 371 := ⟨at_370, rfl⟩
theorem d0_371 : DAt B0 371 (.iadd) 1 372 := ⟨at_371, rfl⟩
theorem d0_372 : DAt B0 372 (.invokevirtual 27) 3 375 := ⟨at_372, rfl⟩
theorem d0_375 : DAt B0 375 (.iload 5) 2 377 := ⟨at_375, rfl⟩
theorem d0_377 : DAt B0 377 (.iconst 1) 1 378 := ⟨at_377, rfl⟩
theorem d0_378 : DAt B0 378 (.iadd) 1 379 := ⟨at_378, rfl⟩
theorem d0_379 : DAt B0 379 (.i2l) 1 380 := ⟨at_379, rfl⟩
theorem d0_380 : DAt B0 380 (.lcmp) 1 381 := ⟨at_380, rfl⟩
theorem d0_381 : DAt B0 381 (.ifCond .eq 5) 3 384 := ⟨at_381, rfl⟩
theorem d0_384 : DAt B0 384 (.iconst 0) 1 385 := ⟨at_384, rfl⟩
theorem d0_385 : DAt B0 385 (.ireturn) 1 386 := ⟨at_385, rfl⟩
theorem d0_386 : DAt B0 386 (.aload 6) 2 388 := ⟨at_386, rfl⟩
theorem d0_388 : DAt B0 388 (.iconst 1) 1 389 := ⟨at_388, rfl⟩
theorem d0_389 : DAt B0 389 (.invokevirtual 43) 3 392 := ⟨at_389, rfl⟩
theorem d0_392 : DAt B0 392 (.iload 14) 2 394 := ⟨at_392, rfl⟩
theorem d0_394 : DAt B0 394 (.ifCond .eq 7) 3 397 := ⟨at_394, rfl⟩
theorem d0_397 : DAt B0 397 (.iconst 3) 1 398 := ⟨at_397, rfl⟩
theorem d0_398 : DAt B0 398 (.goto 4) 3 401 := ⟨at_398, rfl⟩
theorem d0_401 : DAt B0 401 (.iconst 4) 1 402 := ⟨at_401, rfl⟩
theorem d0_402 : DAt B0 402 (.if_icmp .eq 5) 3 405 := ⟨at_402, rfl⟩
theorem d0_405 : DAt B0 405 (.iconst 0) 1 406 := ⟨at_405, rfl⟩
theorem d0_406 : DAt B0 406 (.ireturn) 1 407 := ⟨at_406, rfl⟩
theorem d0_407 : DAt B0 407 (.aload 6) 2 409 := ⟨at_407, rfl⟩
theorem d0_409 : DAt B0 409 (.iconst 1) 1 410 := ⟨at_409, rfl⟩
theorem d0_410 : DAt B0 410 (.invokevirtual 46) 3 413 := ⟨at_410, rfl⟩
theorem d0_413 : DAt B0 413 (.iload 12) 2 415 := ⟨at_413, rfl⟩
theorem d0_415 : DAt B0 415 (.if_icmp .eq 5) 3 418 := ⟨at_415, rfl⟩
theorem d0_418 : DAt B0 418 (.iconst 0) 1 419 := ⟨at_418, rfl⟩
theorem d0_419 : DAt B0 419 (.ireturn) 1 420 := ⟨at_419, rfl⟩
theorem d0_420 : DAt B0 420 (.aload 6) 2 422 := ⟨at_420, rfl⟩
theorem d0_422 : DAt B0 422 (.invokevirtual 20) 3 425 := ⟨at_422, rfl⟩
theorem d0_425 : DAt B0 425 (.iload 12) 2 427 := ⟨at_425, rfl⟩
theorem d0_427 : DAt B0 427 (.if_icmp .eq 5) 3 430 := ⟨at_427, rfl⟩
theorem d0_430 : DAt B0 430 (.iconst 0) 1 431 := ⟨at_430, rfl⟩
theorem d0_431 : DAt B0 431 (.ireturn) 1 432 := ⟨at_431, rfl⟩
theorem d0_432 : DAt B0 432 (.aload 6) 2 434 := ⟨at_432, rfl⟩
theorem d0_434 : DAt B0 434 (.iconst 1) 1 435 := ⟨at_434, rfl⟩
theorem d0_435 : DAt B0 435 (.invokevirtual 49) 3 438 := ⟨at_435, rfl⟩
theorem d0_438 : DAt B0 438 (.iload 5) 2 440 := ⟨at_438, rfl⟩
theorem d0_440 : DAt B0 440 (.iload 5) 2 442 := ⟨at_440, rfl⟩
theorem d0_442 : DAt B0 442 (.iadd) 1 443 := ⟨at_442, rfl⟩
theorem d0_443 : DAt B0 443 (.iconst 1) 1 444 := ⟨at_443, rfl⟩
theorem d0_444 : DAt B0 444 (.iadd) 1 445 := ⟨at_444, rfl⟩
theorem d0_445 : DAt B0 445 (.if_icmp .eq 5) 3 448 := ⟨at_445, rfl⟩
theorem d0_448 : DAt B0 448 (.iconst 0) 1 449 := ⟨at_448, rfl⟩
theorem d0_449 : DAt B0 449 (.ireturn) 1 450 := ⟨at_449, rfl⟩
theorem d0_450 : DAt B0 450 (.aload 6) 2 452 := ⟨at_450, rfl⟩
theorem d0_452 : DAt B0 452 (.iconst 0) 1 453 := ⟨at_452, rfl⟩
theorem d0_453 : DAt B0 453 (.invokevirtual 49) 3 456 := ⟨at_453, rfl⟩
theorem d0_456 : DAt B0 456 (.ifCond .eq 5) 3 459 := ⟨at_456, rfl⟩
theorem d0_459 : DAt B0 459 (.iconst 0) 1 460 := ⟨at_459, rfl⟩
theorem d0_460 : DAt B0 460 (.ireturn) 1 461 := ⟨at_460, rfl⟩
theorem d0_461 : DAt B0 461 (.aload 6) 2 463 := ⟨at_461, rfl⟩
theorem d0_463 : DAt B0 463 (.iconst 0) 1 464 := ⟨at_463, rfl⟩
theorem d0_464 : DAt B0 464 (.invokevirtual 43) 3 467 := ⟨at_464, rfl⟩
theorem d0_467 : DAt B0 467 (.ifCond .eq 5) 3 470 := ⟨at_467, rfl⟩
theorem d0_470 : DAt B0 470 (.iconst 0) 1 471 := ⟨at_470, rfl⟩
theorem d0_471 : DAt B0 471 (.ireturn) 1 472 := ⟨at_471, rfl⟩
theorem d0_472 : DAt B0 472 (.aload 6) 2 474 := ⟨at_472, rfl⟩
theorem d0_474 : DAt B0 474 (.iconst 0) 1 475 := ⟨at_474, rfl⟩
theorem d0_475 : DAt B0 475 (.invokevirtual 46) 3 478 := ⟨at_475, rfl⟩
theorem d0_478 : DAt B0 478 (.ifCond .ne 7) 3 481 := ⟨at_478, rfl⟩
theorem d0_481 : DAt B0 481 (.iconst 1) 1 482 := ⟨at_481, rfl⟩
theorem d0_482 : DAt B0 482 (.goto 4) 3 485 := ⟨at_482, rfl⟩
theorem d0_485 : DAt B0 485 (.iconst 0) 1 486 := ⟨at_485, rfl⟩
theorem d0_486 : DAt B0 486 (.ireturn) 1 487 := ⟨at_486, rfl⟩
theorem ar1 : arity B1 4 := ⟨[.int, .int, .int, .int], none, by decide +kernel, rfl⟩
theorem ar2 : arity B2 3 := ⟨[.int, .int, .int], some .int, by decide +kernel, rfl⟩
theorem ar3 : arity B3 3 := ⟨[.int, .int, .int], some .int, by decide +kernel, rfl⟩
theorem ar4 : arity B4 2 := ⟨[.int, .int], some .int, by decide +kernel, rfl⟩
theorem ar5 : arity B5 1 := ⟨[.int], some .boolean, by decide +kernel, rfl⟩
theorem ar6 : arity B6 2 := ⟨[.int, .int], some .int, by decide +kernel, rfl⟩
theorem ar7 : arity B7 0 := ⟨[], some .int, by decide +kernel, rfl⟩
theorem ar8 : arity B8 2 := ⟨[.int, .int], none, by decide +kernel, rfl⟩
theorem ar9 : arity B9 2 := ⟨[.int, .int], none, by decide +kernel, rfl⟩
theorem ar10 : arity B10 2 := ⟨[.int, .int], none, by decide +kernel, rfl⟩
theorem ar11 : arity B11 1 := ⟨[.int], none, by decide +kernel, rfl⟩
theorem ar12 : arity B12 0 := ⟨[], some .int, by decide +kernel, rfl⟩
theorem ar13 : arity B13 0 := ⟨[], some .int, by decide +kernel, rfl⟩
theorem ar14 : arity B14 1 := ⟨[.int], none, by decide +kernel, rfl⟩
theorem ar15 : arity B15 1 := ⟨[.int], none, by decide +kernel, rfl⟩
theorem ar16 : arity B16 0 := ⟨[], some .int, by decide +kernel, rfl⟩
theorem ar17 : arity B17 1 := ⟨[.int], some .int, by decide +kernel, rfl⟩
theorem ar18 : arity B18 1 := ⟨[.int], some .boolean, by decide +kernel, rfl⟩
theorem ar19 : arity B19 0 := ⟨[], some .int, by decide +kernel, rfl⟩
theorem ar20 : arity B20 2 := ⟨[.int, .int], some .long, by decide +kernel, rfl⟩
theorem ar21 : arity B21 0 := ⟨[], some .int, by decide +kernel, rfl⟩
theorem ar22 : arity B22 1 := ⟨[.int], some .int, by decide +kernel, rfl⟩
theorem ar23 : arity B23 1 := ⟨[.int], none, by decide +kernel, rfl⟩
theorem ar24 : arity B24 0 := ⟨[], some .int, by decide +kernel, rfl⟩
theorem ar25 : arity B25 1 := ⟨[.int], some .int, by decide +kernel, rfl⟩
theorem ar26 : arity B26 1 := ⟨[.int], some .int, by decide +kernel, rfl⟩
theorem ar27 : arity B27 1 := ⟨[.int], some .int, by decide +kernel, rfl⟩
theorem ar28 : arity B28 2 := ⟨[.int, .int], some .int, by decide +kernel, rfl⟩
theorem cw1 : code_w B1 := ⟨mem1 5 rfl, mem1 2 rfl, by decide⟩
theorem cw2 : code_w B2 := ⟨mem1 50 rfl, mem1 2 rfl, by decide⟩
theorem cw3 : code_w B3 := ⟨mem1 71 rfl, mem1 2 rfl, by decide⟩
theorem cw4 : code_w B4 := ⟨mem1 75 rfl, mem1 2 rfl, by decide⟩
theorem cw5 : code_w B5 := ⟨mem1 79 rfl, mem1 2 rfl, by decide⟩
theorem cw6 : code_w B6 := ⟨mem1 83 rfl, mem1 2 rfl, by decide⟩
theorem cw7 : code_w B7 := ⟨mem1 87 rfl, mem1 2 rfl, by decide⟩
theorem cw8 : code_w B8 := ⟨mem1 91 rfl, mem1 2 rfl, by decide⟩
theorem cw9 : code_w B9 := ⟨mem1 95 rfl, mem1 2 rfl, by decide⟩
theorem cw10 : code_w B10 := ⟨mem1 99 rfl, mem1 2 rfl, by decide⟩
theorem cw11 : code_w B11 := ⟨mem1 103 rfl, mem1 2 rfl, by decide⟩
theorem cw12 : code_w B12 := ⟨mem1 108 rfl, mem1 2 rfl, by decide⟩
theorem cw13 : code_w B13 := ⟨mem1 112 rfl, mem1 2 rfl, by decide⟩
theorem cw14 : code_w B14 := ⟨mem1 116 rfl, mem1 2 rfl, by decide⟩
theorem cw15 : code_w B15 := ⟨mem1 120 rfl, mem1 2 rfl, by decide⟩
theorem cw16 : code_w B16 := ⟨mem1 124 rfl, mem1 2 rfl, by decide⟩
theorem cw17 : code_w B17 := ⟨mem1 128 rfl, mem1 2 rfl, by decide⟩
theorem cw18 : code_w B18 := ⟨mem1 133 rfl, mem1 2 rfl, by decide⟩
theorem cw19 : code_w B19 := ⟨mem1 139 rfl, mem1 2 rfl, by decide⟩
theorem cw20 : code_w B20 := ⟨mem1 144 rfl, mem1 2 rfl, by decide⟩
theorem cw21 : code_w B21 := ⟨mem1 151 rfl, mem1 2 rfl, by decide⟩
theorem cw22 : code_w B22 := ⟨mem1 156 rfl, mem1 2 rfl, by decide⟩
theorem cw23 : code_w B23 := ⟨mem1 160 rfl, mem1 2 rfl, by decide⟩
theorem cw24 : code_w B24 := ⟨mem1 165 rfl, mem1 2 rfl, by decide⟩
theorem cw25 : code_w B25 := ⟨mem1 170 rfl, mem1 2 rfl, by decide⟩
theorem cw26 : code_w B26 := ⟨mem1 175 rfl, mem1 2 rfl, by decide⟩
theorem cw27 : code_w B27 := ⟨mem1 180 rfl, mem1 2 rfl, by decide⟩
theorem cw28 : code_w B28 := ⟨mem1 184 rfl, mem1 2 rfl, by decide⟩
theorem rk0_3_0 : room_ok B0 B3 0 := by decide
theorem rk0_12_0 : room_ok B0 B12 0 := by decide
theorem rk0_18_0 : room_ok B0 B18 0 := by decide
theorem rk0_19_0 : room_ok B0 B19 0 := by decide
theorem rk0_20_0 : room_ok B0 B20 0 := by decide
theorem rk0_21_0 : room_ok B0 B21 0 := by decide
theorem rk0_22_0 : room_ok B0 B22 0 := by decide
theorem rk0_24_0 : room_ok B0 B24 0 := by decide
theorem rk0_25_0 : room_ok B0 B25 0 := by decide
theorem rk0_26_0 : room_ok B0 B26 0 := by decide
theorem rk0_27_0 : room_ok B0 B27 0 := by decide
theorem rk1_2_1 : room_ok B1 B2 1 := by decide
theorem rk3_4_0 : room_ok B3 B4 0 := by decide
theorem rk3_6_0 : room_ok B3 B6 0 := by decide
theorem rk3_9_0 : room_ok B3 B9 0 := by decide
theorem rk3_11_0 : room_ok B3 B11 0 := by decide
theorem rk4_5_0 : room_ok B4 B5 0 := by decide
theorem rk6_7_0 : room_ok B6 B7 0 := by decide
theorem rk6_8_0 : room_ok B6 B8 0 := by decide
theorem rk6_13_0 : room_ok B6 B13 0 := by decide
theorem rk6_14_0 : room_ok B6 B14 0 := by decide
theorem rk9_10_0 : room_ok B9 B10 0 := by decide
theorem rk11_12_0 : room_ok B11 B12 0 := by decide
theorem rk11_17_0 : room_ok B11 B17 0 := by decide
theorem rk13_15_0 : room_ok B13 B15 0 := by decide
theorem rk14_15_0 : room_ok B14 B15 0 := by decide
theorem rk15_16_0 : room_ok B15 B16 0 := by decide
theorem rk18_5_0 : room_ok B18 B5 0 := by decide
theorem rk20_4_0 : room_ok B20 B4 0 := by decide
theorem rk20_6_0 : room_ok B20 B6 0 := by decide
theorem rk20_9_0 : room_ok B20 B9 0 := by decide
theorem rk20_11_0 : room_ok B20 B11 0 := by decide
theorem rk22_5_0 : room_ok B22 B5 0 := by decide
theorem rk22_11_0 : room_ok B22 B11 0 := by decide
theorem rk22_23_0 : room_ok B22 B23 0 := by decide
theorem rk25_5_0 : room_ok B25 B5 0 := by decide
theorem rk26_5_0 : room_ok B26 B5 0 := by decide
theorem rk27_5_0 : room_ok B27 B5 0 := by decide
theorem rk27_28_1 : room_ok B27 B28 1 := by decide
def X_clamp (ob : Rec) (i1 : Int32) (i2 : Int32) (i3 : Int32) : Option (Int32) :=
  if i1 < i2 then
    some i2
  else
    if i3 < i1 then
      some i3
    else
      some i1
set_option maxRecDepth 65536 in
set_option maxHeartbeats 4000000 in
theorem X_clamp_p {C : Ctx} {top : Nat} {a : Nat} {H : List (Nat × Nat × Rec)} {ob : Rec} {res : Int32} (i1 : Int32) (i2 : Int32) (i3 : Int32) (hf : X_clamp ob i1 i2 i3 = some res) : Runs C B2 0 0 0 [vr a, vi i1, vi i2, vi i3] [] (top, (a, 18, ob) :: H) (Ans (some (.int res)) (top, (a, 18, ob) :: H)) := by
  delta X_clamp at hf
  refine Runs.iloadN d2_0 rfl <| Runs.iloadN d2_1 rfl <| ?_
  refine ite_el hf (fun hc1 hf => ?_) (fun hc1 hf => ?_)
  · refine Runs.icN d2_2 (tlt hc1).2.1 <| ?_
    obtain rfl := Option.some.inj hf
    exact Runs.iloadN d2_5 rfl <| Runs.retI d2_6 rfl ⟨by decide, by decide⟩ ⟨rfl, rfl⟩
  · refine Runs.icY (pc' := 7) d2_2 (flt hc1).2.1 (by decide) <| ?_
    refine Runs.iloadN d2_7 rfl <| Runs.iloadN d2_8 rfl <| ?_
    refine ite_el hf (fun hc2 hf => ?_) (fun hc2 hf => ?_)
    · refine Runs.icN d2_9 (tlt hc2).2.2.2 <| ?_
      obtain rfl := Option.some.inj hf
      exact Runs.iloadN d2_12 rfl <| Runs.retI d2_13 rfl ⟨by decide, by decide⟩ ⟨rfl, rfl⟩
    · refine Runs.icY (pc' := 14) d2_9 (flt hc2).2.2.2 (by decide) <| ?_
      obtain rfl := Option.some.inj hf
      exact Runs.iloadN d2_14 rfl <| Runs.retI d2_15 rfl ⟨by decide, by decide⟩ ⟨rfl, rfl⟩
theorem X_clamp_pay {C : Ctx} {top : Nat} {a : Nat} {H : List (Nat × Nat × Rec)} {ob : Rec} {res : Int32} {i1 : Int32} {i2 : Int32} {i3 : Int32} (hf : X_clamp ob i1 i2 i3 = some res) : Pays C B2 [.ref a, .int i1, .int i2, .int i3] (top, (a, 18, ob) :: H) (Ans (some (.int res)) (top, (a, 18, ob) :: H)) :=
  Pays.of pnK (Nat.le_of_ble_eq_true rfl) (P := [vr a, vi i1, vi i2, vi i3]) 0 rfl (X_clamp_p i1 i2 i3 hf)
def X_init_w247 (NF : Nat) (k247 : Rec → Int32 → Option (Rec)) (ob : Rec) (i5 : Int32) : Option (Rec) :=
  if i5 < (32 : Int32) then
    chk (32 : Int32) i5 <|
    k247 (sA ob 12 i5 (-1 : Int32)) (i5 + (1 : Int32))
  else
    some ob
def X_init_l247 (NF : Nat) : Nat → Rec → Int32 → Option (Rec)
  | 0, _, _ => none
  | n + 1, ob, i5 => X_init_w247 NF (X_init_l247 NF n) ob i5
set_option maxRecDepth 65536 in
set_option maxHeartbeats 4000000 in
theorem X_init_w247_p {C : Ctx} {a : Nat} {H : List (Nat × Nat × Rec)} {res : Rec} {NF : Nat} (k247 : Rec → Int32 → Option (Rec)) (hk247 : ∀ (ob : Rec) (i5 : Int32), k247 ob i5 = some res → Runs C B1 18 952 247 [vr a, vn, vn, vn, vn, vi i5] [] (a + 1 + 18, (a, 18, ob) :: H) (Ans none (a + 1 + 18, (a, 18, res) :: H))) (ob : Rec) (i5 : Int32) (hf : X_init_w247 NF k247 ob i5 = some res) : Runs C B1 18 952 247 [vr a, vn, vn, vn, vn, vi i5] [] (a + 1 + 18, (a, 18, ob) :: H) (Ans none (a + 1 + 18, (a, 18, res) :: H)) := by
  delta X_init_w247 at hf
  refine Runs.iload d1_247 rfl <| Runs.bipush d1_249 cb_32 <| ?_
  refine ite_el hf (fun hc4 hf => ?_) (fun hc4 hf => ?_)
  · refine Runs.icN d1_251 (tlt hc4).2.1 <| ?_
    refine Runs.aloadN d1_254 rfl <| Runs.getA d1_255 fA_12 w35 (by decide) <| Runs.iload d1_258 rfl <| Runs.iconst d1_260 ci_m1 <| ?_
    refine chk_el hf fun hi5 hf => ?_
    exact Runs.iastoreA d1_261 fA_12 (by decide) hi5 <| Runs.iinc (P' := [vr a, vn, vn, vn, vn, vi (i5 + (1 : Int32))]) d1_262 ci_1 rfl (by decide) rfl <| Runs.goto (pc' := 247) d1_265 (by decide) <| hk247 (sA ob 12 i5 (-1 : Int32)) (i5 + (1 : Int32)) hf
  · refine Runs.icY (pc' := 268) d1_251 (flt hc4).2.1 (by decide) <| ?_
    obtain rfl := Option.some.inj hf
    exact Runs.retV d1_268 rfl ⟨by decide, by decide⟩ ⟨rfl, rfl⟩
theorem X_init_l247_p {C : Ctx} {a : Nat} {H : List (Nat × Nat × Rec)} {res : Rec} {NF : Nat} (n : Nat) (ob : Rec) (i5 : Int32) (hf : X_init_l247 NF n ob i5 = some res) : Runs C B1 18 952 247 [vr a, vn, vn, vn, vn, vi i5] [] (a + 1 + 18, (a, 18, ob) :: H) (Ans none (a + 1 + 18, (a, 18, res) :: H)) := by
  induction n generalizing ob i5 with
  | zero => cases (show (none : Option (Rec)) = some res from hf)
  | succ n ih => exact X_init_w247_p (X_init_l247 NF n) (fun ob i5 h => ih _ _ h) ob i5 hf
def X_init_w215 (NF : Nat) (k215 : Rec → Int32 → Option (Rec)) (ob : Rec) (i5 : Int32) : Option (Rec) :=
  if i5 < (64 : Int32) then
    chk (64 : Int32) i5 <|
    chk (64 : Int32) i5 <|
    k215 (sA (sA ob 9 i5 (-1 : Int32)) 10 i5 (-1 : Int32)) (i5 + (1 : Int32))
  else
    X_init_l247 NF NF ob (0 : Int32)
def X_init_l215 (NF : Nat) : Nat → Rec → Int32 → Option (Rec)
  | 0, _, _ => none
  | n + 1, ob, i5 => X_init_w215 NF (X_init_l215 NF n) ob i5
set_option maxRecDepth 65536 in
set_option maxHeartbeats 4000000 in
theorem X_init_w215_p {C : Ctx} {a : Nat} {H : List (Nat × Nat × Rec)} {res : Rec} {NF : Nat} (k215 : Rec → Int32 → Option (Rec)) (hk215 : ∀ (ob : Rec) (i5 : Int32), k215 ob i5 = some res → Runs C B1 18 952 215 [vr a, vn, vn, vn, vn, vi i5] [] (a + 1 + 18, (a, 18, ob) :: H) (Ans none (a + 1 + 18, (a, 18, res) :: H))) (ob : Rec) (i5 : Int32) (hf : X_init_w215 NF k215 ob i5 = some res) : Runs C B1 18 952 215 [vr a, vn, vn, vn, vn, vi i5] [] (a + 1 + 18, (a, 18, ob) :: H) (Ans none (a + 1 + 18, (a, 18, res) :: H)) := by
  delta X_init_w215 at hf
  refine Runs.iload d1_215 rfl <| Runs.bipush d1_217 cb_64 <| ?_
  refine ite_el hf (fun hc1 hf => ?_) (fun hc1 hf => ?_)
  · refine Runs.icN d1_219 (tlt hc1).2.1 <| ?_
    refine Runs.aloadN d1_222 rfl <| Runs.getA d1_223 fA_9 w29 (by decide) <| Runs.iload d1_226 rfl <| Runs.iconst d1_228 ci_m1 <| ?_
    refine chk_el hf fun hi2 hf => ?_
    refine Runs.iastoreA d1_229 fA_9 (by decide) hi2 <| Runs.aloadN d1_230 rfl <| Runs.getA d1_231 fA_10 w31 (by decide) <| Runs.iload d1_234 rfl <| Runs.iconst d1_236 ci_m1 <| ?_
    refine chk_el hf fun hi3 hf => ?_
    exact Runs.iastoreA d1_237 fA_10 (by decide) hi3 <| Runs.iinc (P' := [vr a, vn, vn, vn, vn, vi (i5 + (1 : Int32))]) d1_238 ci_1 rfl (by decide) rfl <| Runs.goto (pc' := 215) d1_241 (by decide) <| hk215 (sA (sA ob 9 i5 (-1 : Int32)) 10 i5 (-1 : Int32)) (i5 + (1 : Int32)) hf
  · refine Runs.icY (pc' := 244) d1_219 (flt hc1).2.1 (by decide) <| ?_
    exact Runs.iconst d1_244 ci_0 <| Runs.istore (P' := [vr a, vn, vn, vn, vn, vi (0 : Int32)]) d1_245 (by decide) rfl <| X_init_l247_p NF ob (0 : Int32) hf
theorem X_init_l215_p {C : Ctx} {a : Nat} {H : List (Nat × Nat × Rec)} {res : Rec} {NF : Nat} (n : Nat) (ob : Rec) (i5 : Int32) (hf : X_init_l215 NF n ob i5 = some res) : Runs C B1 18 952 215 [vr a, vn, vn, vn, vn, vi i5] [] (a + 1 + 18, (a, 18, ob) :: H) (Ans none (a + 1 + 18, (a, 18, res) :: H)) := by
  induction n generalizing ob i5 with
  | zero => cases (show (none : Option (Rec)) = some res from hf)
  | succ n ih => exact X_init_w215_p (X_init_l215 NF n) (fun ob i5 h => ih _ _ h) ob i5 hf
def X_init (NF : Nat) (i1 : Int32) (i2 : Int32) (i3 : Int32) (i4 : Int32) : Option (Rec) :=
  (X_clamp zrec i1 (1 : Int32) (4 : Int32)).bind fun r6 =>
  (X_clamp (sI zrec 0 r6) i2 (4 : Int32) (16 : Int32)).bind fun r8 =>
  (X_clamp (sI (sI zrec 0 r6) 1 r8) i3 (4 : Int32) (32 : Int32)).bind fun r10 =>
  (X_clamp (sI (sI (sI zrec 0 r6) 1 r8) 2 r10) i4 (1 : Int32) (16 : Int32)).bind fun r12 =>
  X_init_l215 NF NF (sI (sI (sI (sI (sI (sI (sI (sI zrec 0 r6) 1 r8) 2 r10) 3 r12) 4 (0 : Int32)) 5 (0 : Int32)) 6 (0 : Int32)) 7 (0 : Int32)) (0 : Int32)
set_option maxRecDepth 65536 in
set_option maxHeartbeats 4000000 in
theorem X_init_p {C : Ctx} {a : Nat} {H : List (Nat × Nat × Rec)} {res : Rec} {NF : Nat} (i1 : Int32) (i2 : Int32) (i3 : Int32) (i4 : Int32) (hf : X_init NF i1 i2 i3 i4 = some res) : Runs C B1 0 0 0 [vr a, vi i1, vi i2, vi i3, vi i4, vn] [] (a + 1, (a, 0, zrec) :: H) (Ans none (a + 1 + 18, (a, 18, res) :: H)) := by
  delta X_init at hf
  refine Runs.aloadN d1_0 rfl <| Runs.initO (W := 0) d1_1 w6 w7 w8 rfl (by decide) <| Runs.aloadN d1_4 rfl <| Runs.iconst d1_5 ci_4 <| Runs.newArr (j' := 1) (top' := a + 1 + 1) (k' := 1) (n' := 4) d1_6 d1_8 fA_0 w10 rfl w9 (Or.inl w11) rfl (by decide) ⟨by decide, by decide⟩ ⟨fun _ => rfl, fun _ => rfl⟩ rfl rfl rfl (by decide) <| Runs.aloadN d1_11 rfl <| Runs.iconst d1_12 ci_4 <| Runs.newArr (j' := 2) (top' := a + 1 + 2) (k' := 2) (n' := 8) d1_13 d1_15 fA_1 w13 rfl w12 (Or.inl w14) rfl (by decide) ⟨by decide, by decide⟩ ⟨fun _ => rfl, fun _ => rfl⟩ rfl rfl rfl (by decide) <| Runs.aloadN d1_18 rfl <| Runs.iconst d1_19 ci_4 <| Runs.newArr (j' := 3) (top' := a + 1 + 3) (k' := 3) (n' := 12) d1_20 d1_22 fA_2 w15 rfl w12 (Or.inl w16) rfl (by decide) ⟨by decide, by decide⟩ ⟨fun _ => rfl, fun _ => rfl⟩ rfl rfl rfl (by decide) <| Runs.aloadN d1_25 rfl <| ?_
  refine Runs.iconst d1_26 ci_4 <| Runs.newArr (j' := 4) (top' := a + 1 + 4) (k' := 4) (n' := 16) d1_27 d1_29 fA_3 w17 rfl w12 (Or.inl w18) rfl (by decide) ⟨by decide, by decide⟩ ⟨fun _ => rfl, fun _ => rfl⟩ rfl rfl rfl (by decide) <| Runs.aloadN d1_32 rfl <| Runs.iconst d1_33 ci_4 <| Runs.newArr (j' := 5) (top' := a + 1 + 5) (k' := 5) (n' := 20) d1_34 d1_36 fA_4 w19 rfl w12 (Or.inl w20) rfl (by decide) ⟨by decide, by decide⟩ ⟨fun _ => rfl, fun _ => rfl⟩ rfl rfl rfl (by decide) <| Runs.aloadN d1_39 rfl <| Runs.iconst d1_40 ci_4 <| Runs.newArr (j' := 6) (top' := a + 1 + 6) (k' := 6) (n' := 24) d1_41 d1_43 fA_5 w21 rfl w12 (Or.inl w22) rfl (by decide) ⟨by decide, by decide⟩ ⟨fun _ => rfl, fun _ => rfl⟩ rfl rfl rfl (by decide) <| Runs.aloadN d1_46 rfl <| Runs.bipush d1_47 cb_64 <| Runs.newArr (j' := 7) (top' := a + 1 + 7) (k' := 7) (n' := 88) d1_49 d1_51 fA_6 w23 rfl w12 (Or.inl w24) rfl (by decide) ⟨by decide, by decide⟩ ⟨fun _ => rfl, fun _ => rfl⟩ rfl rfl rfl (by decide) <| Runs.aloadN d1_54 rfl <| ?_
  refine Runs.bipush d1_55 cb_64 <| Runs.newArr (j' := 8) (top' := a + 1 + 8) (k' := 8) (n' := 152) d1_57 d1_59 fA_7 w25 rfl w12 (Or.inl w26) rfl (by decide) ⟨by decide, by decide⟩ ⟨fun _ => rfl, fun _ => rfl⟩ rfl rfl rfl (by decide) <| Runs.aloadN d1_62 rfl <| Runs.bipush d1_63 cb_64 <| Runs.newArr (j' := 9) (top' := a + 1 + 9) (k' := 9) (n' := 216) d1_65 d1_67 fA_8 w27 rfl w9 (Or.inl w28) rfl (by decide) ⟨by decide, by decide⟩ ⟨fun _ => rfl, fun _ => rfl⟩ rfl rfl rfl (by decide) <| Runs.aloadN d1_70 rfl <| Runs.bipush d1_71 cb_64 <| Runs.newArr (j' := 10) (top' := a + 1 + 10) (k' := 10) (n' := 280) d1_73 d1_75 fA_9 w29 rfl w12 (Or.inl w30) rfl (by decide) ⟨by decide, by decide⟩ ⟨fun _ => rfl, fun _ => rfl⟩ rfl rfl rfl (by decide) <| Runs.aloadN d1_78 rfl <| Runs.bipush d1_79 cb_64 <| Runs.newArr (j' := 11) (top' := a + 1 + 11) (k' := 11) (n' := 344) d1_81 d1_83 fA_10 w31 rfl w12 (Or.inl w32) rfl (by decide) ⟨by decide, by decide⟩ ⟨fun _ => rfl, fun _ => rfl⟩ rfl rfl rfl (by decide) <| Runs.aloadN d1_86 rfl <| ?_
  refine Runs.bipush d1_87 cb_64 <| Runs.newArr (j' := 12) (top' := a + 1 + 12) (k' := 12) (n' := 408) d1_89 d1_91 fA_11 w33 rfl w12 (Or.inl w34) rfl (by decide) ⟨by decide, by decide⟩ ⟨fun _ => rfl, fun _ => rfl⟩ rfl rfl rfl (by decide) <| Runs.aloadN d1_94 rfl <| Runs.bipush d1_95 cb_32 <| Runs.newArr (j' := 13) (top' := a + 1 + 13) (k' := 13) (n' := 440) d1_97 d1_99 fA_12 w35 rfl w12 (Or.inl w36) rfl (by decide) ⟨by decide, by decide⟩ ⟨fun _ => rfl, fun _ => rfl⟩ rfl rfl rfl (by decide) <| Runs.aloadN d1_102 rfl <| Runs.bipush d1_103 cb_32 <| Runs.newArr (j' := 14) (top' := a + 1 + 14) (k' := 14) (n' := 472) d1_105 d1_107 fA_13 w37 rfl w9 (Or.inl w38) rfl (by decide) ⟨by decide, by decide⟩ ⟨fun _ => rfl, fun _ => rfl⟩ rfl rfl rfl (by decide) <| Runs.aloadN d1_110 rfl <| Runs.bipush d1_111 cb_32 <| Runs.newArr (j' := 15) (top' := a + 1 + 15) (k' := 15) (n' := 504) d1_113 d1_115 fA_14 w39 rfl w9 (Or.inl w40) rfl (by decide) ⟨by decide, by decide⟩ ⟨fun _ => rfl, fun _ => rfl⟩ rfl rfl rfl (by decide) <| Runs.aloadN d1_118 rfl <| ?_
  refine Runs.sipush d1_119 cs_128 <| Runs.newArr (j' := 16) (top' := a + 1 + 16) (k' := 16) (n' := 632) d1_122 d1_124 fA_15 w41 rfl w12 (Or.inl w42) rfl (by decide) ⟨by decide, by decide⟩ ⟨fun _ => rfl, fun _ => rfl⟩ rfl rfl rfl (by decide) <| Runs.aloadN d1_127 rfl <| Runs.bipush d1_128 cb_64 <| Runs.newArr (j' := 17) (top' := a + 1 + 17) (k' := 17) (n' := 696) d1_130 d1_132 fA_16 w43 rfl w9 (Or.inl w44) rfl (by decide) ⟨by decide, by decide⟩ ⟨fun _ => rfl, fun _ => rfl⟩ rfl rfl rfl (by decide) <| Runs.aloadN d1_135 rfl <| Runs.sipush d1_136 cs_256 <| Runs.newArr (j' := 18) (top' := a + 1 + 18) (k' := 18) (n' := 952) d1_139 d1_141 fA_17 w45 rfl w12 (Or.inl w46) rfl (by decide) ⟨by decide, by decide⟩ ⟨fun _ => rfl, fun _ => rfl⟩ rfl rfl rfl (by decide) <| Runs.aloadN d1_144 rfl <| Runs.aloadN d1_145 rfl <| Runs.iloadN d1_146 rfl <| Runs.iconst d1_147 ci_1 <| ?_
  refine Runs.iconst d1_148 ci_4 <| ?_
  refine bind_el hf fun r6 hg7 hf => ?_
  refine Runs.callP (N := B2) (W := 1) (as := [.int i1, .int (1 : Int32), .int (4 : Int32)]) (S' := [.ref a]) d1_149 w47 w48 w49 rfl cw2 ar2 rk1_2_1 (by decide) rfl rfl (X_clamp_pay hg7) <| ans1 <| Runs.putI d1_152 w51 fS_0 (Or.inl w52) <| Runs.aloadN d1_155 rfl <| Runs.aloadN d1_156 rfl <| Runs.iloadN d1_157 rfl <| Runs.iconst d1_158 ci_4 <| Runs.bipush d1_159 cb_16 <| ?_
  refine bind_el hf fun r8 hg9 hf => ?_
  refine Runs.callP (N := B2) (W := 1) (as := [.int i2, .int (4 : Int32), .int (16 : Int32)]) (S' := [.ref a]) d1_161 w47 w48 w49 rfl cw2 ar2 rk1_2_1 (by decide) rfl rfl (X_clamp_pay hg9) <| ans1 <| Runs.putI d1_164 w53 fS_1 (Or.inl w54) <| Runs.aloadN d1_167 rfl <| Runs.aloadN d1_168 rfl <| Runs.iloadN d1_169 rfl <| Runs.iconst d1_170 ci_4 <| Runs.bipush d1_171 cb_32 <| ?_
  refine bind_el hf fun r10 hg11 hf => ?_
  refine Runs.callP (N := B2) (W := 1) (as := [.int i3, .int (4 : Int32), .int (32 : Int32)]) (S' := [.ref a]) d1_173 w47 w48 w49 rfl cw2 ar2 rk1_2_1 (by decide) rfl rfl (X_clamp_pay hg11) <| ans1 <| Runs.putI d1_176 w55 fS_2 (Or.inl w56) <| Runs.aloadN d1_179 rfl <| Runs.aloadN d1_180 rfl <| Runs.iload d1_181 rfl <| Runs.iconst d1_183 ci_1 <| Runs.bipush d1_184 cb_16 <| ?_
  refine bind_el hf fun r12 hg13 hf => ?_
  refine Runs.callP (N := B2) (W := 1) (as := [.int i4, .int (1 : Int32), .int (16 : Int32)]) (S' := [.ref a]) d1_186 w47 w48 w49 rfl cw2 ar2 rk1_2_1 (by decide) rfl rfl (X_clamp_pay hg13) <| ans1 <| Runs.putI d1_189 w57 fS_3 (Or.inl w58) <| Runs.aloadN d1_192 rfl <| Runs.iconst d1_193 ci_0 <| Runs.putI d1_194 w59 fS_4 (Or.inl w60) <| Runs.aloadN d1_197 rfl <| Runs.iconst d1_198 ci_0 <| Runs.putI d1_199 w61 fS_5 (Or.inl w62) <| Runs.aloadN d1_202 rfl <| Runs.iconst d1_203 ci_0 <| Runs.putI d1_204 w63 fS_6 (Or.inl w64) <| Runs.aloadN d1_207 rfl <| ?_
  exact Runs.iconst d1_208 ci_0 <| Runs.putI d1_209 w65 fS_7 (Or.inl w66) <| Runs.iconst d1_212 ci_0 <| Runs.istore (P' := [vr a, vi i1, vi i2, vi i3, vi i4, vi (0 : Int32)]) d1_213 (by decide) rfl <| Runs.forget [true, false, false, false, false, true] rfl <| X_init_l215_p NF (sI (sI (sI (sI (sI (sI (sI (sI zrec 0 r6) 1 r8) 2 r10) 3 r12) 4 (0 : Int32)) 5 (0 : Int32)) 6 (0 : Int32)) 7 (0 : Int32)) (0 : Int32) hf
theorem X_init_pay {C : Ctx} {a : Nat} {H : List (Nat × Nat × Rec)} {res : Rec} {NF : Nat} {i1 : Int32} {i2 : Int32} {i3 : Int32} {i4 : Int32} (hf : X_init NF i1 i2 i3 i4 = some res) : Pays C B1 [.ref a, .int i1, .int i2, .int i3, .int i4] (a + 1, (a, 0, zrec) :: H) (Ans none (a + 1 + 18, (a, 18, res) :: H)) :=
  Pays.of pnK (Nat.le_of_ble_eq_true rfl) (P := [vr a, vi i1, vi i2, vi i3, vi i4, vn]) 1 rfl (X_init_p i1 i2 i3 i4 hf)
def X_validPid (ob : Rec) (i1 : Int32) : Option (Int32) :=
  if i1 < (0 : Int32) then
    some (0 : Int32)
  else
    if i1 < (gI ob 0) then
      some (1 : Int32)
    else
      some (0 : Int32)
set_option maxRecDepth 65536 in
set_option maxHeartbeats 4000000 in
theorem X_validPid_p {C : Ctx} {top : Nat} {a : Nat} {H : List (Nat × Nat × Rec)} {ob : Rec} {res : Int32} (i1 : Int32) (hf : X_validPid ob i1 = some res) : Runs C B5 0 0 0 [vr a, vi i1] [] (top, (a, 18, ob) :: H) (Ans (some (.int res)) (top, (a, 18, ob) :: H)) := by
  delta X_validPid at hf
  refine Runs.iloadN d5_0 rfl <| ?_
  refine ite_el hf (fun hc1 hf => ?_) (fun hc1 hf => ?_)
  · refine Runs.ifY (pc' := 16) d5_1 (tlt hc1).1 (by decide) <| ?_
    obtain rfl := Option.some.inj hf
    exact Runs.iconst d5_16 ci_0 <| Runs.retZ (y := (0 : Int32)) d5_17 rfl ⟨by decide, by decide⟩ rfl ⟨rfl, rfl⟩
  · refine Runs.ifN d5_1 (flt hc1).1 <| ?_
    refine Runs.iloadN d5_4 rfl <| Runs.aloadN d5_5 rfl <| Runs.getI d5_6 w51 fS_0 <| ?_
    refine ite_el hf (fun hc2 hf => ?_) (fun hc2 hf => ?_)
    · refine Runs.icN d5_9 (tlt hc2).2.1 <| ?_
      obtain rfl := Option.some.inj hf
      exact Runs.iconst d5_12 ci_1 <| Runs.goto (pc' := 17) d5_13 (by decide) <| Runs.retZ (y := (1 : Int32)) d5_17 rfl ⟨by decide, by decide⟩ rfl ⟨rfl, rfl⟩
    · refine Runs.icY (pc' := 16) d5_9 (flt hc2).2.1 (by decide) <| ?_
      obtain rfl := Option.some.inj hf
      exact Runs.iconst d5_16 ci_0 <| Runs.retZ (y := (0 : Int32)) d5_17 rfl ⟨by decide, by decide⟩ rfl ⟨rfl, rfl⟩
theorem X_validPid_pay {C : Ctx} {top : Nat} {a : Nat} {H : List (Nat × Nat × Rec)} {ob : Rec} {res : Int32} {i1 : Int32} (hf : X_validPid ob i1 = some res) : Pays C B5 [.ref a, .int i1] (top, (a, 18, ob) :: H) (Ans (some (.int res)) (top, (a, 18, ob) :: H)) :=
  Pays.of pnK (Nat.le_of_ble_eq_true rfl) (P := [vr a, vi i1]) 0 rfl (X_validPid_p i1 hf)
def X_check (ob : Rec) (i1 : Int32) (i2 : Int32) : Option (Int32) :=
  (X_validPid ob i1).bind fun r1 =>
  if r1 = (0 : Int32) then
    some (1 : Int32)
  else
    if i2 < (0 : Int32) then
      some (2 : Int32)
    else
      if i2 < ((gI ob 1) * (4 : Int32)) then
        chk (4 : Int32) i1 <|
        if (gA ob 0 i1) = (0 : Int32) then
          some (0 : Int32)
        else
          some (3 : Int32)
      else
        some (2 : Int32)
set_option maxRecDepth 65536 in
set_option maxHeartbeats 4000000 in
theorem X_check_p {C : Ctx} {top : Nat} {a : Nat} {H : List (Nat × Nat × Rec)} {ob : Rec} {res : Int32} (i1 : Int32) (i2 : Int32) (hf : X_check ob i1 i2 = some res) : Runs C B4 0 0 0 [vr a, vi i1, vi i2] [] (top, (a, 18, ob) :: H) (Ans (some (.int res)) (top, (a, 18, ob) :: H)) := by
  delta X_check at hf
  refine Runs.aloadN d4_0 rfl <| Runs.iloadN d4_1 rfl <| ?_
  refine bind_el hf fun r1 hg2 hf => ?_
  refine Runs.callP (N := B5) (W := 0) (as := [.int i1]) (S' := []) d4_2 w76 w77 w78 rfl cw5 ar5 rk4_5_0 (by decide) rfl rfl (X_validPid_pay hg2) <| ans1 <| ?_
  refine ite_el hf (fun hc3 hf => ?_) (fun hc3 hf => ?_)
  · refine Runs.ifN d4_5 (teq hc3).2 <| ?_
    obtain rfl := Option.some.inj hf
    exact Runs.iconst d4_8 ci_1 <| Runs.retI d4_9 rfl ⟨by decide, by decide⟩ ⟨rfl, rfl⟩
  · refine Runs.ifY (pc' := 10) d4_5 (feq hc3).2 (by decide) <| ?_
    refine Runs.iloadN d4_10 rfl <| ?_
    refine ite_el hf (fun hc4 hf => ?_) (fun hc4 hf => ?_)
    · refine Runs.ifY (pc' := 24) d4_11 (tlt hc4).1 (by decide) <| ?_
      obtain rfl := Option.some.inj hf
      exact Runs.iconst d4_24 ci_2 <| Runs.retI d4_25 rfl ⟨by decide, by decide⟩ ⟨rfl, rfl⟩
    · refine Runs.ifN d4_11 (flt hc4).1 <| ?_
      refine Runs.iloadN d4_14 rfl <| Runs.aloadN d4_15 rfl <| Runs.getI d4_16 w53 fS_1 <| Runs.iconst d4_19 ci_4 <| Runs.imul d4_20 <| ?_
      refine ite_el hf (fun hc5 hf => ?_) (fun hc5 hf => ?_)
      · refine Runs.icY (pc' := 26) d4_21 (tlt hc5).1 (by decide) <| ?_
        refine Runs.aloadN d4_26 rfl <| Runs.getA d4_27 fA_0 w10 (by decide) <| Runs.iloadN d4_30 rfl <| ?_
        refine chk_el hf fun hi6 hf => ?_
        refine Runs.baloadA d4_31 fA_0 (by decide) hi6 <| ?_
        refine ite_el hf (fun hc7 hf => ?_) (fun hc7 hf => ?_)
        · refine Runs.ifY (pc' := 37) d4_32 (teq hc7).1 (by decide) <| ?_
          obtain rfl := Option.some.inj hf
          exact Runs.iconst d4_37 ci_0 <| Runs.retI d4_38 rfl ⟨by decide, by decide⟩ ⟨rfl, rfl⟩
        · refine Runs.ifN d4_32 (feq hc7).1 <| ?_
          obtain rfl := Option.some.inj hf
          exact Runs.iconst d4_35 ci_3 <| Runs.retI d4_36 rfl ⟨by decide, by decide⟩ ⟨rfl, rfl⟩
      · refine Runs.icN d4_21 (flt hc5).1 <| ?_
        obtain rfl := Option.some.inj hf
        exact Runs.iconst d4_24 ci_2 <| Runs.retI d4_25 rfl ⟨by decide, by decide⟩ ⟨rfl, rfl⟩
theorem X_check_pay {C : Ctx} {top : Nat} {a : Nat} {H : List (Nat × Nat × Rec)} {ob : Rec} {res : Int32} {i1 : Int32} {i2 : Int32} (hf : X_check ob i1 i2 = some res) : Pays C B4 [.ref a, .int i1, .int i2] (top, (a, 18, ob) :: H) (Ans (some (.int res)) (top, (a, 18, ob) :: H)) :=
  Pays.of pnK (Nat.le_of_ble_eq_true rfl) (P := [vr a, vi i1, vi i2]) 0 rfl (X_check_p i1 i2 hf)
def X_findFreeFrame_w2 (NF : Nat) (ob : Rec) (k2 : Int32 → Option (Int32)) (i1 : Int32) : Option (Int32) :=
  if i1 < (gI ob 2) then
    chk (32 : Int32) i1 <|
    if (gA ob 12 i1) < (0 : Int32) then
      some i1
    else
      k2 (i1 + (1 : Int32))
  else
    some (-1 : Int32)
def X_findFreeFrame_l2 (NF : Nat) (ob : Rec) : Nat → Int32 → Option (Int32)
  | 0, _ => none
  | n + 1, i1 => X_findFreeFrame_w2 NF ob (X_findFreeFrame_l2 NF ob n) i1
set_option maxRecDepth 65536 in
set_option maxHeartbeats 4000000 in
theorem X_findFreeFrame_w2_p {C : Ctx} {top : Nat} {a : Nat} {H : List (Nat × Nat × Rec)} {ob : Rec} {res : Int32} {NF : Nat} (k2 : Int32 → Option (Int32)) (hk2 : ∀ (i1 : Int32), k2 i1 = some res → Runs C B7 0 0 2 [vr a, vi i1] [] (top, (a, 18, ob) :: H) (Ans (some (.int res)) (top, (a, 18, ob) :: H))) (i1 : Int32) (hf : X_findFreeFrame_w2 NF ob k2 i1 = some res) : Runs C B7 0 0 2 [vr a, vi i1] [] (top, (a, 18, ob) :: H) (Ans (some (.int res)) (top, (a, 18, ob) :: H)) := by
  delta X_findFreeFrame_w2 at hf
  refine Runs.iloadN d7_2 rfl <| Runs.aloadN d7_3 rfl <| Runs.getI d7_4 w55 fS_2 <| ?_
  refine ite_el hf (fun hc1 hf => ?_) (fun hc1 hf => ?_)
  · refine Runs.icN d7_7 (tlt hc1).2.1 <| ?_
    refine Runs.aloadN d7_10 rfl <| Runs.getA d7_11 fA_12 w35 (by decide) <| Runs.iloadN d7_14 rfl <| ?_
    refine chk_el hf fun hi2 hf => ?_
    refine Runs.ialoadA d7_15 fA_12 (by decide) hi2 <| ?_
    refine ite_el hf (fun hc3 hf => ?_) (fun hc3 hf => ?_)
    · refine Runs.ifN d7_16 (tlt hc3).2.1 <| ?_
      obtain rfl := Option.some.inj hf
      exact Runs.iloadN d7_19 rfl <| Runs.retI d7_20 rfl ⟨by decide, by decide⟩ ⟨rfl, rfl⟩
    · refine Runs.ifY (pc' := 21) d7_16 (flt hc3).2.1 (by decide) <| ?_
      exact Runs.iinc (P' := [vr a, vi (i1 + (1 : Int32))]) d7_21 ci_1 rfl (by decide) rfl <| Runs.goto (pc' := 2) d7_24 (by decide) <| hk2 (i1 + (1 : Int32)) hf
  · refine Runs.icY (pc' := 27) d7_7 (flt hc1).2.1 (by decide) <| ?_
    obtain rfl := Option.some.inj hf
    exact Runs.iconst d7_27 ci_m1 <| Runs.retI d7_28 rfl ⟨by decide, by decide⟩ ⟨rfl, rfl⟩
theorem X_findFreeFrame_l2_p {C : Ctx} {top : Nat} {a : Nat} {H : List (Nat × Nat × Rec)} {ob : Rec} {res : Int32} {NF : Nat} (n : Nat) (i1 : Int32) (hf : X_findFreeFrame_l2 NF ob n i1 = some res) : Runs C B7 0 0 2 [vr a, vi i1] [] (top, (a, 18, ob) :: H) (Ans (some (.int res)) (top, (a, 18, ob) :: H)) := by
  induction n generalizing i1 with
  | zero => cases (show (none : Option (Int32)) = some res from hf)
  | succ n ih => exact X_findFreeFrame_w2_p (X_findFreeFrame_l2 NF ob n) (fun i1 h => ih _ h) i1 hf
def X_findFreeFrame (NF : Nat) (ob : Rec) : Option (Int32) :=
  X_findFreeFrame_l2 NF ob NF (0 : Int32)
set_option maxRecDepth 65536 in
set_option maxHeartbeats 4000000 in
theorem X_findFreeFrame_p {C : Ctx} {top : Nat} {a : Nat} {H : List (Nat × Nat × Rec)} {ob : Rec} {res : Int32} {NF : Nat} (hf : X_findFreeFrame NF ob = some res) : Runs C B7 0 0 0 [vr a, vn] [] (top, (a, 18, ob) :: H) (Ans (some (.int res)) (top, (a, 18, ob) :: H)) := by
  delta X_findFreeFrame at hf
  exact Runs.iconst d7_0 ci_0 <| Runs.istoreN (P' := [vr a, vi (0 : Int32)]) d7_1 (by decide) rfl <| X_findFreeFrame_l2_p NF (0 : Int32) hf
theorem X_findFreeFrame_pay {C : Ctx} {top : Nat} {a : Nat} {H : List (Nat × Nat × Rec)} {ob : Rec} {res : Int32} {NF : Nat} (hf : X_findFreeFrame NF ob = some res) : Pays C B7 [.ref a] (top, (a, 18, ob) :: H) (Ans (some (.int res)) (top, (a, 18, ob) :: H)) :=
  Pays.of pnK (Nat.le_of_ble_eq_true rfl) (P := [vr a, vn]) 1 rfl (X_findFreeFrame_p hf)
def X_allocSlot_w12 (NF : Nat) (ob : Rec) (k12 : Int32 → Int32 → Option (Int32)) (i1 : Int32) (i2 : Int32) : Option (Int32) :=
  if i2 < i1 then
    chk (64 : Int32) i2 <|
    if (gA ob 16 i2) = (0 : Int32) then
      some i2
    else
      k12 i1 (i2 + (1 : Int32))
  else
    some (-1 : Int32)
def X_allocSlot_l12 (NF : Nat) (ob : Rec) : Nat → Int32 → Int32 → Option (Int32)
  | 0, _, _ => none
  | n + 1, i1, i2 => X_allocSlot_w12 NF ob (X_allocSlot_l12 NF ob n) i1 i2
set_option maxRecDepth 65536 in
set_option maxHeartbeats 4000000 in
theorem X_allocSlot_w12_p {C : Ctx} {top : Nat} {a : Nat} {H : List (Nat × Nat × Rec)} {ob : Rec} {res : Int32} {NF : Nat} (k12 : Int32 → Int32 → Option (Int32)) (hk12 : ∀ (i1 : Int32) (i2 : Int32), k12 i1 i2 = some res → Runs C B16 0 0 12 [vr a, vi i1, vi i2] [] (top, (a, 18, ob) :: H) (Ans (some (.int res)) (top, (a, 18, ob) :: H))) (i1 : Int32) (i2 : Int32) (hf : X_allocSlot_w12 NF ob k12 i1 i2 = some res) : Runs C B16 0 0 12 [vr a, vi i1, vi i2] [] (top, (a, 18, ob) :: H) (Ans (some (.int res)) (top, (a, 18, ob) :: H)) := by
  delta X_allocSlot_w12 at hf
  refine Runs.iloadN d16_12 rfl <| Runs.iloadN d16_13 rfl <| ?_
  refine ite_el hf (fun hc1 hf => ?_) (fun hc1 hf => ?_)
  · refine Runs.icN d16_14 (tlt hc1).2.1 <| ?_
    refine Runs.aloadN d16_17 rfl <| Runs.getA d16_18 fA_16 w43 (by decide) <| Runs.iloadN d16_21 rfl <| ?_
    refine chk_el hf fun hi2 hf => ?_
    refine Runs.baloadA d16_22 fA_16 (by decide) hi2 <| ?_
    refine ite_el hf (fun hc3 hf => ?_) (fun hc3 hf => ?_)
    · refine Runs.ifN d16_23 (teq hc3).2 <| ?_
      obtain rfl := Option.some.inj hf
      exact Runs.iloadN d16_26 rfl <| Runs.retI d16_27 rfl ⟨by decide, by decide⟩ ⟨rfl, rfl⟩
    · refine Runs.ifY (pc' := 28) d16_23 (feq hc3).2 (by decide) <| ?_
      exact Runs.iinc (P' := [vr a, vi i1, vi (i2 + (1 : Int32))]) d16_28 ci_1 rfl (by decide) rfl <| Runs.goto (pc' := 12) d16_31 (by decide) <| hk12 i1 (i2 + (1 : Int32)) hf
  · refine Runs.icY (pc' := 34) d16_14 (flt hc1).2.1 (by decide) <| ?_
    obtain rfl := Option.some.inj hf
    exact Runs.iconst d16_34 ci_m1 <| Runs.retI d16_35 rfl ⟨by decide, by decide⟩ ⟨rfl, rfl⟩
theorem X_allocSlot_l12_p {C : Ctx} {top : Nat} {a : Nat} {H : List (Nat × Nat × Rec)} {ob : Rec} {res : Int32} {NF : Nat} (n : Nat) (i1 : Int32) (i2 : Int32) (hf : X_allocSlot_l12 NF ob n i1 i2 = some res) : Runs C B16 0 0 12 [vr a, vi i1, vi i2] [] (top, (a, 18, ob) :: H) (Ans (some (.int res)) (top, (a, 18, ob) :: H)) := by
  induction n generalizing i1 i2 with
  | zero => cases (show (none : Option (Int32)) = some res from hf)
  | succ n ih => exact X_allocSlot_w12_p (X_allocSlot_l12 NF ob n) (fun i1 i2 h => ih _ _ h) i1 i2 hf
def X_allocSlot (NF : Nat) (ob : Rec) : Option (Int32) :=
  X_allocSlot_l12 NF ob NF ((gI ob 0) * (gI ob 1)) (0 : Int32)
set_option maxRecDepth 65536 in
set_option maxHeartbeats 4000000 in
theorem X_allocSlot_p {C : Ctx} {top : Nat} {a : Nat} {H : List (Nat × Nat × Rec)} {ob : Rec} {res : Int32} {NF : Nat} (hf : X_allocSlot NF ob = some res) : Runs C B16 0 0 0 [vr a, vn, vn] [] (top, (a, 18, ob) :: H) (Ans (some (.int res)) (top, (a, 18, ob) :: H)) := by
  delta X_allocSlot at hf
  exact Runs.aloadN d16_0 rfl <| Runs.getI d16_1 w51 fS_0 <| Runs.aloadN d16_4 rfl <| Runs.getI d16_5 w53 fS_1 <| Runs.imul d16_8 <| Runs.istoreN (P' := [vr a, vi ((gI ob 0) * (gI ob 1)), vn]) d16_9 (by decide) rfl <| Runs.iconst d16_10 ci_0 <| Runs.istoreN (P' := [vr a, vi ((gI ob 0) * (gI ob 1)), vi (0 : Int32)]) d16_11 (by decide) rfl <| X_allocSlot_l12_p NF ((gI ob 0) * (gI ob 1)) (0 : Int32) hf
theorem X_allocSlot_pay {C : Ctx} {top : Nat} {a : Nat} {H : List (Nat × Nat × Rec)} {ob : Rec} {res : Int32} {NF : Nat} (hf : X_allocSlot NF ob = some res) : Pays C B16 [.ref a] (top, (a, 18, ob) :: H) (Ans (some (.int res)) (top, (a, 18, ob) :: H)) :=
  Pays.of pnK (Nat.le_of_ble_eq_true rfl) (P := [vr a, vn, vn]) 2 rfl (X_allocSlot_p hf)
def X_writeBack_w50 (NF : Nat) (k50 : Rec → Int32 → Int32 → Int32 → Option (Rec)) (ob : Rec) (i1 : Int32) (i3 : Int32) (i4 : Int32) : Option (Rec) :=
  if i4 < (4 : Int32) then
    chk (128 : Int32) ((i1 * (4 : Int32)) + i4) <|
    chk (256 : Int32) ((i3 * (4 : Int32)) + i4) <|
    k50 (sA ob 17 ((i3 * (4 : Int32)) + i4) (gA ob 15 ((i1 * (4 : Int32)) + i4))) i1 i3 (i4 + (1 : Int32))
  else
    chk (32 : Int32) i1 <|
    some (sA ob 14 i1 (0 : Int32))
def X_writeBack_l50 (NF : Nat) : Nat → Rec → Int32 → Int32 → Int32 → Option (Rec)
  | 0, _, _, _, _ => none
  | n + 1, ob, i1, i3, i4 => X_writeBack_w50 NF (X_writeBack_l50 NF n) ob i1 i3 i4
set_option maxRecDepth 65536 in
set_option maxHeartbeats 4000000 in
theorem X_writeBack_w50_p {C : Ctx} {top : Nat} {a : Nat} {H : List (Nat × Nat × Rec)} {res : Rec} {NF : Nat} (k50 : Rec → Int32 → Int32 → Int32 → Option (Rec)) (hk50 : ∀ (ob : Rec) (i1 : Int32) (i3 : Int32) (i4 : Int32), k50 ob i1 i3 i4 = some res → Runs C B15 0 0 50 [vr a, vi i1, vn, vi i3, vi i4] [] (top, (a, 18, ob) :: H) (Ans none (top, (a, 18, res) :: H))) (ob : Rec) (i1 : Int32) (i3 : Int32) (i4 : Int32) (hf : X_writeBack_w50 NF k50 ob i1 i3 i4 = some res) : Runs C B15 0 0 50 [vr a, vi i1, vn, vi i3, vi i4] [] (top, (a, 18, ob) :: H) (Ans none (top, (a, 18, res) :: H)) := by
  delta X_writeBack_w50 at hf
  refine Runs.iload d15_50 rfl <| Runs.iconst d15_52 ci_4 <| ?_
  refine ite_el hf (fun hc1 hf => ?_) (fun hc1 hf => ?_)
  · refine Runs.icN d15_53 (tlt hc1).2.1 <| ?_
    refine Runs.aloadN d15_56 rfl <| Runs.getA d15_57 fA_17 w45 (by decide) <| Runs.iloadN d15_60 rfl <| Runs.iconst d15_61 ci_4 <| Runs.imul d15_62 <| Runs.iload d15_63 rfl <| Runs.iadd d15_65 <| Runs.aloadN d15_66 rfl <| Runs.getA d15_67 fA_15 w41 (by decide) <| Runs.iloadN d15_70 rfl <| Runs.iconst d15_71 ci_4 <| Runs.imul d15_72 <| ?_
    refine Runs.iload d15_73 rfl <| Runs.iadd d15_75 <| ?_
    refine chk_el hf fun hi2 hf => ?_
    refine Runs.ialoadA d15_76 fA_15 (by decide) hi2 <| ?_
    refine chk_el hf fun hi3 hf => ?_
    exact Runs.iastoreA d15_77 fA_17 (by decide) hi3 <| Runs.iinc (P' := [vr a, vi i1, vn, vi i3, vi (i4 + (1 : Int32))]) d15_78 ci_1 rfl (by decide) rfl <| Runs.goto (pc' := 50) d15_81 (by decide) <| hk50 (sA ob 17 ((i3 * (4 : Int32)) + i4) (gA ob 15 ((i1 * (4 : Int32)) + i4))) i1 i3 (i4 + (1 : Int32)) hf
  · refine Runs.icY (pc' := 84) d15_53 (flt hc1).2.1 (by decide) <| ?_
    refine Runs.aloadN d15_84 rfl <| Runs.getA d15_85 fA_14 w39 (by decide) <| Runs.iloadN d15_88 rfl <| Runs.iconst d15_89 ci_0 <| ?_
    refine chk_el hf fun hi4 hf => ?_
    obtain rfl := Option.some.inj hf
    exact Runs.bastoreA (y := (0 : Int32)) d15_90 fA_14 (by decide) hi4 rfl <| Runs.retV d15_91 rfl ⟨by decide, by decide⟩ ⟨rfl, rfl⟩
theorem X_writeBack_l50_p {C : Ctx} {top : Nat} {a : Nat} {H : List (Nat × Nat × Rec)} {res : Rec} {NF : Nat} (n : Nat) (ob : Rec) (i1 : Int32) (i3 : Int32) (i4 : Int32) (hf : X_writeBack_l50 NF n ob i1 i3 i4 = some res) : Runs C B15 0 0 50 [vr a, vi i1, vn, vi i3, vi i4] [] (top, (a, 18, ob) :: H) (Ans none (top, (a, 18, res) :: H)) := by
  induction n generalizing ob i1 i3 i4 with
  | zero => cases (show (none : Option (Rec)) = some res from hf)
  | succ n ih => exact X_writeBack_w50_p (X_writeBack_l50 NF n) (fun ob i1 i3 i4 h => ih _ _ _ _ h) ob i1 i3 i4 hf
def X_writeBack (NF : Nat) (ob : Rec) (i1 : Int32) : Option (Rec) :=
  chk (32 : Int32) i1 <|
  if (gA ob 12 i1) < (0 : Int32) then
    some ob
  else
    chk (64 : Int32) (gA ob 12 i1) <|
    if (gA ob 10 (gA ob 12 i1)) < (0 : Int32) then
      (X_allocSlot NF ob).bind fun r9 =>
      if r9 < (0 : Int32) then
        some ob
      else
        chk (64 : Int32) r9 <|
        chk (64 : Int32) (gA ob 12 i1) <|
        X_writeBack_l50 NF NF (sA (sA ob 16 r9 (1 : Int32)) 10 (gA ob 12 i1) r9) i1 r9 (0 : Int32)
    else
      X_writeBack_l50 NF NF ob i1 (gA ob 10 (gA ob 12 i1)) (0 : Int32)
set_option maxRecDepth 65536 in
set_option maxHeartbeats 4000000 in
theorem X_writeBack_p {C : Ctx} {top : Nat} {a : Nat} {H : List (Nat × Nat × Rec)} {res : Rec} {NF : Nat} (ob : Rec) (i1 : Int32) (hf : X_writeBack NF ob i1 = some res) : Runs C B15 0 0 0 [vr a, vi i1, vn, vn, vn] [] (top, (a, 18, ob) :: H) (Ans none (top, (a, 18, res) :: H)) := by
  delta X_writeBack at hf
  refine Runs.aloadN d15_0 rfl <| Runs.getA d15_1 fA_12 w35 (by decide) <| Runs.iloadN d15_4 rfl <| ?_
  refine chk_el hf fun hi5 hf => ?_
  refine Runs.ialoadA d15_5 fA_12 (by decide) hi5 <| Runs.istoreN (P' := [vr a, vi i1, vi (gA ob 12 i1), vn, vn]) d15_6 (by decide) rfl <| Runs.iloadN d15_7 rfl <| ?_
  refine ite_el hf (fun hc6 hf => ?_) (fun hc6 hf => ?_)
  · refine Runs.ifN d15_8 (tlt hc6).2.1 <| ?_
    obtain rfl := Option.some.inj hf
    exact Runs.retV d15_11 rfl ⟨by decide, by decide⟩ ⟨rfl, rfl⟩
  · refine Runs.ifY (pc' := 12) d15_8 (flt hc6).2.1 (by decide) <| ?_
    refine Runs.aloadN d15_12 rfl <| Runs.getA d15_13 fA_10 w31 (by decide) <| Runs.iloadN d15_16 rfl <| ?_
    refine chk_el hf fun hi7 hf => ?_
    refine Runs.ialoadA d15_17 fA_10 (by decide) hi7 <| Runs.istoreN (P' := [vr a, vi i1, vi (gA ob 12 i1), vi (gA ob 10 (gA ob 12 i1)), vn]) d15_18 (by decide) rfl <| Runs.iloadN d15_19 rfl <| ?_
    refine ite_el hf (fun hc8 hf => ?_) (fun hc8 hf => ?_)
    · refine Runs.ifN d15_20 (tlt hc8).2.1 <| ?_
      refine Runs.aloadN d15_23 rfl <| ?_
      refine bind_el hf fun r9 hg10 hf => ?_
      refine Runs.callP (N := B16) (W := 0) (as := []) (S' := []) d15_24 w121 w122 w123 rfl cw16 ar16 rk15_16_0 (by decide) rfl rfl (X_allocSlot_pay hg10) <| ans1 <| Runs.istoreN (P' := [vr a, vi i1, vi (gA ob 12 i1), vi r9, vn]) d15_27 (by decide) rfl <| Runs.iloadN d15_28 rfl <| ?_
      refine ite_el hf (fun hc11 hf => ?_) (fun hc11 hf => ?_)
      · refine Runs.ifN d15_29 (tlt hc11).2.1 <| ?_
        obtain rfl := Option.some.inj hf
        exact Runs.retV d15_32 rfl ⟨by decide, by decide⟩ ⟨rfl, rfl⟩
      · refine Runs.ifY (pc' := 33) d15_29 (flt hc11).2.1 (by decide) <| ?_
        refine Runs.aloadN d15_33 rfl <| Runs.getA d15_34 fA_16 w43 (by decide) <| Runs.iloadN d15_37 rfl <| Runs.iconst d15_38 ci_1 <| ?_
        refine chk_el hf fun hi12 hf => ?_
        refine Runs.bastoreA (y := (1 : Int32)) d15_39 fA_16 (by decide) hi12 rfl <| Runs.aloadN d15_40 rfl <| Runs.getA d15_41 fA_10 w31 (by decide) <| Runs.iloadN d15_44 rfl <| Runs.iloadN d15_45 rfl <| ?_
        refine chk_el hf fun hi13 hf => ?_
        exact Runs.iastoreA d15_46 fA_10 (by decide) hi13 <| Runs.iconst d15_47 ci_0 <| Runs.istore (P' := [vr a, vi i1, vi (gA ob 12 i1), vi r9, vi (0 : Int32)]) d15_48 (by decide) rfl <| Runs.forget [true, true, false, true, true] rfl <| X_writeBack_l50_p NF (sA (sA ob 16 r9 (1 : Int32)) 10 (gA ob 12 i1) r9) i1 r9 (0 : Int32) hf
    · refine Runs.ifY (pc' := 47) d15_20 (flt hc8).2.1 (by decide) <| ?_
      exact Runs.iconst d15_47 ci_0 <| Runs.istore (P' := [vr a, vi i1, vi (gA ob 12 i1), vi (gA ob 10 (gA ob 12 i1)), vi (0 : Int32)]) d15_48 (by decide) rfl <| Runs.forget [true, true, false, true, true] rfl <| X_writeBack_l50_p NF ob i1 (gA ob 10 (gA ob 12 i1)) (0 : Int32) hf
theorem X_writeBack_pay {C : Ctx} {top : Nat} {a : Nat} {H : List (Nat × Nat × Rec)} {res : Rec} {NF : Nat} {ob : Rec} {i1 : Int32} (hf : X_writeBack NF ob i1 = some res) : Pays C B15 [.ref a, .int i1] (top, (a, 18, ob) :: H) (Ans none (top, (a, 18, res) :: H)) :=
  Pays.of pnK (Nat.le_of_ble_eq_true rfl) (P := [vr a, vi i1, vn, vn, vn]) 3 rfl (X_writeBack_p ob i1 hf)
def X_chooseVictim_b126 (NF : Nat) (k4 : Rec → Int32 → Int32 → Option (Int32 × Rec)) (ob : Rec) (i1 : Int32) (i2 : Int32) (i3 : Int32) (t0 : Int32) : Option (Int32 × Rec) :=
  if t0 = (0 : Int32) then
    if i1 < (0 : Int32) then
      chk (32 : Int32) i3 <|
      if (gA ob 14 i3) = (0 : Int32) then
        k4 ob i3 (i2 + (1 : Int32))
      else
        k4 ob i1 (i2 + (1 : Int32))
    else
      k4 ob i1 (i2 + (1 : Int32))
  else
    chk (32 : Int32) i3 <|
    if (gA ob 14 i3) = (0 : Int32) then
      some (i3, ob)
    else
      (X_writeBack NF ob i3).bind fun q23 =>
      k4 q23 i1 (i2 + (1 : Int32))
set_option maxRecDepth 65536 in
set_option maxHeartbeats 4000000 in
theorem X_chooseVictim_b126_p {C : Ctx} {top : Nat} {a : Nat} {H : List (Nat × Nat × Rec)} {res : Int32 × Rec} {NF : Nat} (k4 : Rec → Int32 → Int32 → Option (Int32 × Rec)) (hk4 : ∀ (ob : Rec) (i1 : Int32) (i2 : Int32), k4 ob i1 i2 = some res → Runs C B13 0 0 4 [vr a, vi i1, vi i2, vn, vn, vn, vn] [] (top, (a, 18, ob) :: H) (Ans (some (.int res.1)) (top, (a, 18, res.2) :: H))) (ob : Rec) (i1 : Int32) (i2 : Int32) (i3 : Int32) (t0 : Int32) (hf : X_chooseVictim_b126 NF k4 ob i1 i2 i3 t0 = some res) : Runs C B13 0 0 126 [vr a, vi i1, vi i2, vi i3, vn, vn, vn] [.int t0] (top, (a, 18, ob) :: H) (Ans (some (.int res.1)) (top, (a, 18, res.2) :: H)) := by
  delta X_chooseVictim_b126 at hf
  refine Runs.istore (P' := [vr a, vi i1, vi i2, vi i3, vn, vn, vi t0]) d13_126 (by decide) rfl <| Runs.iload d13_128 rfl <| ?_
  refine ite_el hf (fun hc17 hf => ?_) (fun hc17 hf => ?_)
  · refine Runs.ifN d13_130 (teq hc17).2 <| ?_
    refine Runs.iloadN d13_133 rfl <| ?_
    refine ite_el hf (fun hc18 hf => ?_) (fun hc18 hf => ?_)
    · refine Runs.ifN d13_134 (tlt hc18).2.1 <| ?_
      refine Runs.aloadN d13_137 rfl <| Runs.getA d13_138 fA_14 w39 (by decide) <| Runs.iloadN d13_141 rfl <| ?_
      refine chk_el hf fun hi19 hf => ?_
      refine Runs.baloadA d13_142 fA_14 (by decide) hi19 <| ?_
      refine ite_el hf (fun hc20 hf => ?_) (fun hc20 hf => ?_)
      · refine Runs.ifN d13_143 (teq hc20).2 <| ?_
        exact Runs.iloadN d13_146 rfl <| Runs.istoreN (P' := [vr a, vi i3, vi i2, vi i3, vn, vn, vi t0]) d13_147 (by decide) rfl <| Runs.goto (pc' := 167) d13_148 (by decide) <| Runs.iinc (P' := [vr a, vi i3, vi (i2 + (1 : Int32)), vi i3, vn, vn, vi t0]) d13_167 ci_1 rfl (by decide) rfl <| Runs.goto (pc' := 4) d13_170 (by decide) <| Runs.forget [true, true, true, false, false, false, false] rfl <| hk4 ob i3 (i2 + (1 : Int32)) hf
      · refine Runs.ifY (pc' := 167) d13_143 (feq hc20).2 (by decide) <| ?_
        exact Runs.iinc (P' := [vr a, vi i1, vi (i2 + (1 : Int32)), vi i3, vn, vn, vi t0]) d13_167 ci_1 rfl (by decide) rfl <| Runs.goto (pc' := 4) d13_170 (by decide) <| Runs.forget [true, true, true, false, false, false, false] rfl <| hk4 ob i1 (i2 + (1 : Int32)) hf
    · refine Runs.ifY (pc' := 167) d13_134 (flt hc18).2.1 (by decide) <| ?_
      exact Runs.iinc (P' := [vr a, vi i1, vi (i2 + (1 : Int32)), vi i3, vn, vn, vi t0]) d13_167 ci_1 rfl (by decide) rfl <| Runs.goto (pc' := 4) d13_170 (by decide) <| Runs.forget [true, true, true, false, false, false, false] rfl <| hk4 ob i1 (i2 + (1 : Int32)) hf
  · refine Runs.ifY (pc' := 151) d13_130 (feq hc17).2 (by decide) <| ?_
    refine Runs.aloadN d13_151 rfl <| Runs.getA d13_152 fA_14 w39 (by decide) <| Runs.iloadN d13_155 rfl <| ?_
    refine chk_el hf fun hi21 hf => ?_
    refine Runs.baloadA d13_156 fA_14 (by decide) hi21 <| ?_
    refine ite_el hf (fun hc22 hf => ?_) (fun hc22 hf => ?_)
    · refine Runs.ifN d13_157 (teq hc22).2 <| ?_
      obtain rfl := Option.some.inj hf
      exact Runs.iloadN d13_160 rfl <| Runs.retI d13_161 rfl ⟨by decide, by decide⟩ ⟨rfl, rfl⟩
    · refine Runs.ifY (pc' := 162) d13_157 (feq hc22).2 (by decide) <| ?_
      refine Runs.aloadN d13_162 rfl <| Runs.iloadN d13_163 rfl <| ?_
      refine bind_el hf fun q23 hg24 hf => ?_
      exact Runs.callP (N := B15) (W := 0) (as := [.int i3]) (S' := []) d13_164 w117 w118 w119 rfl cw15 ar15 rk13_15_0 (by decide) rfl rfl (X_writeBack_pay hg24) <| ans0 <| Runs.iinc (P' := [vr a, vi i1, vi (i2 + (1 : Int32)), vi i3, vn, vn, vi t0]) d13_167 ci_1 rfl (by decide) rfl <| Runs.goto (pc' := 4) d13_170 (by decide) <| Runs.forget [true, true, true, false, false, false, false] rfl <| hk4 q23 i1 (i2 + (1 : Int32)) hf
def X_chooseVictim_w4 (NF : Nat) (k4 : Rec → Int32 → Int32 → Option (Int32 × Rec)) (ob : Rec) (i1 : Int32) (i2 : Int32) : Option (Int32 × Rec) :=
  if i2 < ((2 : Int32) * (gI ob 2)) then
    dvz (gI ob 2) <|
    chk (32 : Int32) (gI ob 7) <|
    if (gA ob 12 (gI ob 7)) < (0 : Int32) then
      some ((gI ob 7), (sI ob 7 (((gI ob 7) + (1 : Int32)) % (gI ob 2))))
    else
      chk (32 : Int32) (gI ob 7) <|
      if (gA ob 13 (gI ob 7)) = (0 : Int32) then
        chk (4 : Int32) ((gA ob 12 (gI ob 7)) / (16 : Int32)) <|
        if (gA ob 0 ((gA ob 12 (gI ob 7)) / (16 : Int32))) = (0 : Int32) then
          chk (4 : Int32) ((gA ob 12 (gI ob 7)) / (16 : Int32)) <|
          chk (64 : Int32) (gA ob 12 (gI ob 7)) <|
          if ((gA ob 1 ((gA ob 12 (gI ob 7)) / (16 : Int32))) - (gA ob 11 (gA ob 12 (gI ob 7)))) < (gI ob 3) then
            X_chooseVictim_b126 NF k4 (sI ob 7 (((gI ob 7) + (1 : Int32)) % (gI ob 2))) i1 i2 (gI ob 7) (0 : Int32)
          else
            X_chooseVictim_b126 NF k4 (sI ob 7 (((gI ob 7) + (1 : Int32)) % (gI ob 2))) i1 i2 (gI ob 7) (1 : Int32)
        else
          X_chooseVictim_b126 NF k4 (sI ob 7 (((gI ob 7) + (1 : Int32)) % (gI ob 2))) i1 i2 (gI ob 7) (1 : Int32)
      else
        chk (32 : Int32) (gI ob 7) <|
        chk (4 : Int32) ((gA ob 12 (gI ob 7)) / (16 : Int32)) <|
        chk (64 : Int32) (gA ob 12 (gI ob 7)) <|
        k4 (sA (sA (sI ob 7 (((gI ob 7) + (1 : Int32)) % (gI ob 2))) 13 (gI ob 7) (0 : Int32)) 11 (gA ob 12 (gI ob 7)) (gA ob 1 ((gA ob 12 (gI ob 7)) / (16 : Int32)))) i1 (i2 + (1 : Int32))
  else
    if i1 < (0 : Int32) then
      dvz (gI ob 2) <|
      some ((gI ob 7), (sI ob 7 (((gI ob 7) + (1 : Int32)) % (gI ob 2))))
    else
      some (i1, ob)
def X_chooseVictim_l4 (NF : Nat) : Nat → Rec → Int32 → Int32 → Option (Int32 × Rec)
  | 0, _, _, _ => none
  | n + 1, ob, i1, i2 => X_chooseVictim_w4 NF (X_chooseVictim_l4 NF n) ob i1 i2
set_option maxRecDepth 65536 in
set_option maxHeartbeats 4000000 in
theorem X_chooseVictim_w4_p {C : Ctx} {top : Nat} {a : Nat} {H : List (Nat × Nat × Rec)} {res : Int32 × Rec} {NF : Nat} (k4 : Rec → Int32 → Int32 → Option (Int32 × Rec)) (hk4 : ∀ (ob : Rec) (i1 : Int32) (i2 : Int32), k4 ob i1 i2 = some res → Runs C B13 0 0 4 [vr a, vi i1, vi i2, vn, vn, vn, vn] [] (top, (a, 18, ob) :: H) (Ans (some (.int res.1)) (top, (a, 18, res.2) :: H))) (ob : Rec) (i1 : Int32) (i2 : Int32) (hf : X_chooseVictim_w4 NF k4 ob i1 i2 = some res) : Runs C B13 0 0 4 [vr a, vi i1, vi i2, vn, vn, vn, vn] [] (top, (a, 18, ob) :: H) (Ans (some (.int res.1)) (top, (a, 18, res.2) :: H)) := by
  delta X_chooseVictim_w4 at hf
  refine Runs.iloadN d13_4 rfl <| Runs.iconst d13_5 ci_2 <| Runs.aloadN d13_6 rfl <| Runs.getI d13_7 w55 fS_2 <| Runs.imul d13_10 <| ?_
  refine ite_el hf (fun hc1 hf => ?_) (fun hc1 hf => ?_)
  · refine Runs.icN d13_11 (tlt hc1).2.1 <| ?_
    refine Runs.aloadN d13_14 rfl <| Runs.getI d13_15 w65 fS_7 <| Runs.istoreN (P' := [vr a, vi i1, vi i2, vi (gI ob 7), vn, vn, vn]) d13_18 (by decide) rfl <| Runs.aloadN d13_19 rfl <| Runs.aloadN d13_20 rfl <| Runs.getI d13_21 w65 fS_7 <| Runs.iconst d13_24 ci_1 <| Runs.iadd d13_25 <| Runs.aloadN d13_26 rfl <| Runs.getI d13_27 w55 fS_2 <| ?_
    refine dvz_el hf fun hz2 hf => ?_
    refine Runs.irem d13_30 hz2 <| Runs.putI d13_31 w65 fS_7 (Or.inl w66) <| Runs.aloadN d13_34 rfl <| Runs.getA d13_35 fA_12 w35 (by decide) <| Runs.iloadN d13_38 rfl <| ?_
    refine chk_el hf fun hi3 hf => ?_
    refine Runs.ialoadA d13_39 fA_12 (by decide) hi3 <| Runs.istore (P' := [vr a, vi i1, vi i2, vi (gI ob 7), vi (gA ob 12 (gI ob 7)), vn, vn]) d13_40 (by decide) rfl <| Runs.iload d13_42 rfl <| ?_
    refine ite_el hf (fun hc4 hf => ?_) (fun hc4 hf => ?_)
    · refine Runs.ifN d13_44 (tlt hc4).2.1 <| ?_
      obtain rfl := Option.some.inj hf
      exact Runs.iloadN d13_47 rfl <| Runs.retI d13_48 rfl ⟨by decide, by decide⟩ ⟨rfl, rfl⟩
    · refine Runs.ifY (pc' := 49) d13_44 (flt hc4).2.1 (by decide) <| ?_
      refine Runs.iload d13_49 rfl <| Runs.bipush d13_51 cb_16 <| Runs.idiv d13_53 (by decide) <| Runs.istore (P' := [vr a, vi i1, vi i2, vi (gI ob 7), vi (gA ob 12 (gI ob 7)), vi ((gA ob 12 (gI ob 7)) / (16 : Int32)), vn]) d13_54 (by decide) rfl <| Runs.aloadN d13_56 rfl <| Runs.getA d13_57 fA_13 w37 (by decide) <| Runs.iloadN d13_60 rfl <| ?_
      refine chk_el hf fun hi5 hf => ?_
      refine Runs.baloadA d13_61 fA_13 (by decide) hi5 <| ?_
      refine ite_el hf (fun hc6 hf => ?_) (fun hc6 hf => ?_)
      · refine Runs.ifY (pc' := 89) d13_62 (teq hc6).1 (by decide) <| ?_
        refine Runs.aloadN d13_89 rfl <| Runs.getA d13_90 fA_0 w10 (by decide) <| Runs.iload d13_93 rfl <| ?_
        refine chk_el hf fun hi7 hf => ?_
        refine Runs.baloadA d13_95 fA_0 (by decide) hi7 <| ?_
        refine ite_el hf (fun hc8 hf => ?_) (fun hc8 hf => ?_)
        · refine Runs.ifN d13_96 (teq hc8).2 <| ?_
          refine Runs.aloadN d13_99 rfl <| Runs.getA d13_100 fA_1 w13 (by decide) <| Runs.iload d13_103 rfl <| ?_
          refine chk_el hf fun hi9 hf => ?_
          refine Runs.ialoadA d13_105 fA_1 (by decide) hi9 <| Runs.aloadN d13_106 rfl <| Runs.getA d13_107 fA_11 w33 (by decide) <| Runs.iload d13_110 rfl <| ?_
          refine chk_el hf fun hi10 hf => ?_
          refine Runs.ialoadA d13_112 fA_11 (by decide) hi10 <| Runs.isub d13_113 <| Runs.aloadN d13_114 rfl <| Runs.getI d13_115 w57 fS_3 <| ?_
          refine ite_el hf (fun hc11 hf => ?_) (fun hc11 hf => ?_)
          · refine Runs.icY (pc' := 125) d13_118 (tlt hc11).1 (by decide) <| ?_
            exact Runs.iconst d13_125 ci_0 <| Runs.forget [true, true, true, true, false, false, false] rfl <| X_chooseVictim_b126_p k4 hk4 (sI ob 7 (((gI ob 7) + (1 : Int32)) % (gI ob 2))) i1 i2 (gI ob 7) (0 : Int32) hf
          · refine Runs.icN d13_118 (flt hc11).1 <| ?_
            exact Runs.iconst d13_121 ci_1 <| Runs.goto (pc' := 126) d13_122 (by decide) <| Runs.forget [true, true, true, true, false, false, false] rfl <| X_chooseVictim_b126_p k4 hk4 (sI ob 7 (((gI ob 7) + (1 : Int32)) % (gI ob 2))) i1 i2 (gI ob 7) (1 : Int32) hf
        · refine Runs.ifY (pc' := 121) d13_96 (feq hc8).2 (by decide) <| ?_
          exact Runs.iconst d13_121 ci_1 <| Runs.goto (pc' := 126) d13_122 (by decide) <| Runs.forget [true, true, true, true, false, false, false] rfl <| X_chooseVictim_b126_p k4 hk4 (sI ob 7 (((gI ob 7) + (1 : Int32)) % (gI ob 2))) i1 i2 (gI ob 7) (1 : Int32) hf
      · refine Runs.ifN d13_62 (feq hc6).1 <| ?_
        refine Runs.aloadN d13_65 rfl <| Runs.getA d13_66 fA_13 w37 (by decide) <| Runs.iloadN d13_69 rfl <| Runs.iconst d13_70 ci_0 <| ?_
        refine chk_el hf fun hi12 hf => ?_
        refine Runs.bastoreA (y := (0 : Int32)) d13_71 fA_13 (by decide) hi12 rfl <| Runs.aloadN d13_72 rfl <| Runs.getA d13_73 fA_11 w33 (by decide) <| Runs.iload d13_76 rfl <| Runs.aloadN d13_78 rfl <| Runs.getA d13_79 fA_1 w13 (by decide) <| Runs.iload d13_82 rfl <| ?_
        refine chk_el hf fun hi13 hf => ?_
        refine Runs.ialoadA d13_84 fA_1 (by decide) hi13 <| ?_
        refine chk_el hf fun hi14 hf => ?_
        exact Runs.iastoreA d13_85 fA_11 (by decide) hi14 <| Runs.goto (pc' := 167) d13_86 (by decide) <| Runs.iinc (P' := [vr a, vi i1, vi (i2 + (1 : Int32)), vi (gI ob 7), vi (gA ob 12 (gI ob 7)), vi ((gA ob 12 (gI ob 7)) / (16 : Int32)), vn]) d13_167 ci_1 rfl (by decide) rfl <| Runs.goto (pc' := 4) d13_170 (by decide) <| Runs.forget [true, true, true, false, false, false, false] rfl <| hk4 (sA (sA (sI ob 7 (((gI ob 7) + (1 : Int32)) % (gI ob 2))) 13 (gI ob 7) (0 : Int32)) 11 (gA ob 12 (gI ob 7)) (gA ob 1 ((gA ob 12 (gI ob 7)) / (16 : Int32)))) i1 (i2 + (1 : Int32)) hf
  · refine Runs.icY (pc' := 173) d13_11 (flt hc1).2.1 (by decide) <| ?_
    refine Runs.iloadN d13_173 rfl <| ?_
    refine ite_el hf (fun hc15 hf => ?_) (fun hc15 hf => ?_)
    · refine Runs.ifY (pc' := 179) d13_174 (tlt hc15).1 (by decide) <| ?_
      refine Runs.aloadN d13_179 rfl <| Runs.getI d13_180 w65 fS_7 <| Runs.istoreN (P' := [vr a, vi i1, vi (gI ob 7), vn, vn, vn, vn]) d13_183 (by decide) rfl <| Runs.aloadN d13_184 rfl <| Runs.aloadN d13_185 rfl <| Runs.getI d13_186 w65 fS_7 <| Runs.iconst d13_189 ci_1 <| Runs.iadd d13_190 <| Runs.aloadN d13_191 rfl <| Runs.getI d13_192 w55 fS_2 <| ?_
      refine dvz_el hf fun hz16 hf => ?_
      obtain rfl := Option.some.inj hf
      exact Runs.irem d13_195 hz16 <| Runs.putI d13_196 w65 fS_7 (Or.inl w66) <| Runs.iloadN d13_199 rfl <| Runs.retI d13_200 rfl ⟨by decide, by decide⟩ ⟨rfl, rfl⟩
    · refine Runs.ifN d13_174 (flt hc15).1 <| ?_
      obtain rfl := Option.some.inj hf
      exact Runs.iloadN d13_177 rfl <| Runs.retI d13_178 rfl ⟨by decide, by decide⟩ ⟨rfl, rfl⟩
theorem X_chooseVictim_l4_p {C : Ctx} {top : Nat} {a : Nat} {H : List (Nat × Nat × Rec)} {res : Int32 × Rec} {NF : Nat} (n : Nat) (ob : Rec) (i1 : Int32) (i2 : Int32) (hf : X_chooseVictim_l4 NF n ob i1 i2 = some res) : Runs C B13 0 0 4 [vr a, vi i1, vi i2, vn, vn, vn, vn] [] (top, (a, 18, ob) :: H) (Ans (some (.int res.1)) (top, (a, 18, res.2) :: H)) := by
  induction n generalizing ob i1 i2 with
  | zero => cases (show (none : Option (Int32 × Rec)) = some res from hf)
  | succ n ih => exact X_chooseVictim_w4_p (X_chooseVictim_l4 NF n) (fun ob i1 i2 h => ih _ _ _ h) ob i1 i2 hf
def X_chooseVictim (NF : Nat) (ob : Rec) : Option (Int32 × Rec) :=
  X_chooseVictim_l4 NF NF ob (-1 : Int32) (0 : Int32)
set_option maxRecDepth 65536 in
set_option maxHeartbeats 4000000 in
theorem X_chooseVictim_p {C : Ctx} {top : Nat} {a : Nat} {H : List (Nat × Nat × Rec)} {res : Int32 × Rec} {NF : Nat} (ob : Rec) (hf : X_chooseVictim NF ob = some res) : Runs C B13 0 0 0 [vr a, vn, vn, vn, vn, vn, vn] [] (top, (a, 18, ob) :: H) (Ans (some (.int res.1)) (top, (a, 18, res.2) :: H)) := by
  delta X_chooseVictim at hf
  exact Runs.iconst d13_0 ci_m1 <| Runs.istoreN (P' := [vr a, vi (-1 : Int32), vn, vn, vn, vn, vn]) d13_1 (by decide) rfl <| Runs.iconst d13_2 ci_0 <| Runs.istoreN (P' := [vr a, vi (-1 : Int32), vi (0 : Int32), vn, vn, vn, vn]) d13_3 (by decide) rfl <| X_chooseVictim_l4_p NF ob (-1 : Int32) (0 : Int32) hf
theorem X_chooseVictim_pay {C : Ctx} {top : Nat} {a : Nat} {H : List (Nat × Nat × Rec)} {res : Int32 × Rec} {NF : Nat} {ob : Rec} (hf : X_chooseVictim NF ob = some res) : Pays C B13 [.ref a] (top, (a, 18, ob) :: H) (Ans (some (.int res.1)) (top, (a, 18, res.2) :: H)) :=
  Pays.of pnK (Nat.le_of_ble_eq_true rfl) (P := [vr a, vn, vn, vn, vn, vn, vn]) 6 rfl (X_chooseVictim_p ob hf)
def X_evictFrame_b26 (NF : Nat) (ob : Rec) (i1 : Int32) (i2 : Int32) : Option (Rec) :=
  chk (64 : Int32) i2 <|
  chk (32 : Int32) i1 <|
  chk (32 : Int32) i1 <|
  chk (32 : Int32) i1 <|
  some (sA (sA (sA (sA ob 9 i2 (-1 : Int32)) 12 i1 (-1 : Int32)) 13 i1 (0 : Int32)) 14 i1 (0 : Int32))
set_option maxRecDepth 65536 in
set_option maxHeartbeats 4000000 in
theorem X_evictFrame_b26_p {C : Ctx} {top : Nat} {a : Nat} {H : List (Nat × Nat × Rec)} {res : Rec} {NF : Nat} (ob : Rec) (i1 : Int32) (i2 : Int32) (hf : X_evictFrame_b26 NF ob i1 i2 = some res) : Runs C B14 0 0 26 [vr a, vi i1, vi i2] [] (top, (a, 18, ob) :: H) (Ans none (top, (a, 18, res) :: H)) := by
  delta X_evictFrame_b26 at hf
  refine Runs.aloadN d14_26 rfl <| Runs.getA d14_27 fA_9 w29 (by decide) <| Runs.iloadN d14_30 rfl <| Runs.iconst d14_31 ci_m1 <| ?_
  refine chk_el hf fun hi1 hf => ?_
  refine Runs.iastoreA d14_32 fA_9 (by decide) hi1 <| Runs.aloadN d14_33 rfl <| Runs.getA d14_34 fA_12 w35 (by decide) <| Runs.iloadN d14_37 rfl <| Runs.iconst d14_38 ci_m1 <| ?_
  refine chk_el hf fun hi2 hf => ?_
  refine Runs.iastoreA d14_39 fA_12 (by decide) hi2 <| Runs.aloadN d14_40 rfl <| Runs.getA d14_41 fA_13 w37 (by decide) <| Runs.iloadN d14_44 rfl <| Runs.iconst d14_45 ci_0 <| ?_
  refine chk_el hf fun hi3 hf => ?_
  refine Runs.bastoreA (y := (0 : Int32)) d14_46 fA_13 (by decide) hi3 rfl <| Runs.aloadN d14_47 rfl <| Runs.getA d14_48 fA_14 w39 (by decide) <| Runs.iloadN d14_51 rfl <| Runs.iconst d14_52 ci_0 <| ?_
  refine chk_el hf fun hi4 hf => ?_
  obtain rfl := Option.some.inj hf
  exact Runs.bastoreA (y := (0 : Int32)) d14_53 fA_14 (by decide) hi4 rfl <| Runs.retV d14_54 rfl ⟨by decide, by decide⟩ ⟨rfl, rfl⟩
def X_evictFrame (NF : Nat) (ob : Rec) (i1 : Int32) : Option (Rec) :=
  chk (32 : Int32) i1 <|
  if (gA ob 12 i1) < (0 : Int32) then
    some ob
  else
    chk (32 : Int32) i1 <|
    if (gA ob 14 i1) = (0 : Int32) then
      X_evictFrame_b26 NF ob i1 (gA ob 12 i1)
    else
      (X_writeBack NF ob i1).bind fun q9 =>
      X_evictFrame_b26 NF q9 i1 (gA ob 12 i1)
set_option maxRecDepth 65536 in
set_option maxHeartbeats 4000000 in
theorem X_evictFrame_p {C : Ctx} {top : Nat} {a : Nat} {H : List (Nat × Nat × Rec)} {res : Rec} {NF : Nat} (ob : Rec) (i1 : Int32) (hf : X_evictFrame NF ob i1 = some res) : Runs C B14 0 0 0 [vr a, vi i1, vn] [] (top, (a, 18, ob) :: H) (Ans none (top, (a, 18, res) :: H)) := by
  delta X_evictFrame at hf
  refine Runs.aloadN d14_0 rfl <| Runs.getA d14_1 fA_12 w35 (by decide) <| Runs.iloadN d14_4 rfl <| ?_
  refine chk_el hf fun hi5 hf => ?_
  refine Runs.ialoadA d14_5 fA_12 (by decide) hi5 <| Runs.istoreN (P' := [vr a, vi i1, vi (gA ob 12 i1)]) d14_6 (by decide) rfl <| Runs.iloadN d14_7 rfl <| ?_
  refine ite_el hf (fun hc6 hf => ?_) (fun hc6 hf => ?_)
  · refine Runs.ifN d14_8 (tlt hc6).2.1 <| ?_
    obtain rfl := Option.some.inj hf
    exact Runs.retV d14_11 rfl ⟨by decide, by decide⟩ ⟨rfl, rfl⟩
  · refine Runs.ifY (pc' := 12) d14_8 (flt hc6).2.1 (by decide) <| ?_
    refine Runs.aloadN d14_12 rfl <| Runs.getA d14_13 fA_14 w39 (by decide) <| Runs.iloadN d14_16 rfl <| ?_
    refine chk_el hf fun hi7 hf => ?_
    refine Runs.baloadA d14_17 fA_14 (by decide) hi7 <| ?_
    refine ite_el hf (fun hc8 hf => ?_) (fun hc8 hf => ?_)
    · exact Runs.ifY (pc' := 26) d14_18 (teq hc8).1 (by decide) <| X_evictFrame_b26_p ob i1 (gA ob 12 i1) hf
    · refine Runs.ifN d14_18 (feq hc8).1 <| ?_
      refine Runs.aloadN d14_21 rfl <| Runs.iloadN d14_22 rfl <| ?_
      refine bind_el hf fun q9 hg10 hf => ?_
      exact Runs.callP (N := B15) (W := 0) (as := [.int i1]) (S' := []) d14_23 w117 w118 w119 rfl cw15 ar15 rk14_15_0 (by decide) rfl rfl (X_writeBack_pay hg10) <| ans0 <| X_evictFrame_b26_p q9 i1 (gA ob 12 i1) hf
theorem X_evictFrame_pay {C : Ctx} {top : Nat} {a : Nat} {H : List (Nat × Nat × Rec)} {res : Rec} {NF : Nat} {ob : Rec} {i1 : Int32} (hf : X_evictFrame NF ob i1 = some res) : Pays C B14 [.ref a, .int i1] (top, (a, 18, ob) :: H) (Ans none (top, (a, 18, res) :: H)) :=
  Pays.of pnK (Nat.le_of_ble_eq_true rfl) (P := [vr a, vi i1, vn]) 1 rfl (X_evictFrame_p ob i1 hf)
def X_fillFrame_w15 (NF : Nat) (k15 : Rec → Int32 → Int32 → Int32 → Int32 → Int32 → Option (Rec)) (ob : Rec) (i1 : Int32) (i2 : Int32) (i3 : Int32) (i4 : Int32) (i5 : Int32) : Option (Rec) :=
  if i5 < (4 : Int32) then
    if i3 < (0 : Int32) then
      chk (128 : Int32) (i4 + i5) <|
      k15 (sA ob 15 (i4 + i5) (0 : Int32)) i1 i2 i3 i4 (i5 + (1 : Int32))
    else
      chk (256 : Int32) ((i3 * (4 : Int32)) + i5) <|
      chk (128 : Int32) (i4 + i5) <|
      k15 (sA ob 15 (i4 + i5) (gA ob 17 ((i3 * (4 : Int32)) + i5))) i1 i2 i3 i4 (i5 + (1 : Int32))
  else
    chk (32 : Int32) i1 <|
    chk (32 : Int32) i1 <|
    chk (32 : Int32) i1 <|
    chk (64 : Int32) i2 <|
    chk (4 : Int32) (i2 / (16 : Int32)) <|
    chk (64 : Int32) i2 <|
    some (sA (sA (sA (sA (sA ob 12 i1 i2) 13 i1 (0 : Int32)) 14 i1 (0 : Int32)) 9 i2 i1) 11 i2 (gA ob 1 (i2 / (16 : Int32))))
def X_fillFrame_l15 (NF : Nat) : Nat → Rec → Int32 → Int32 → Int32 → Int32 → Int32 → Option (Rec)
  | 0, _, _, _, _, _, _ => none
  | n + 1, ob, i1, i2, i3, i4, i5 => X_fillFrame_w15 NF (X_fillFrame_l15 NF n) ob i1 i2 i3 i4 i5
set_option maxRecDepth 65536 in
set_option maxHeartbeats 4000000 in
theorem X_fillFrame_w15_p {C : Ctx} {top : Nat} {a : Nat} {H : List (Nat × Nat × Rec)} {res : Rec} {NF : Nat} (k15 : Rec → Int32 → Int32 → Int32 → Int32 → Int32 → Option (Rec)) (hk15 : ∀ (ob : Rec) (i1 : Int32) (i2 : Int32) (i3 : Int32) (i4 : Int32) (i5 : Int32), k15 ob i1 i2 i3 i4 i5 = some res → Runs C B8 0 0 15 [vr a, vi i1, vi i2, vi i3, vi i4, vi i5] [] (top, (a, 18, ob) :: H) (Ans none (top, (a, 18, res) :: H))) (ob : Rec) (i1 : Int32) (i2 : Int32) (i3 : Int32) (i4 : Int32) (i5 : Int32) (hf : X_fillFrame_w15 NF k15 ob i1 i2 i3 i4 i5 = some res) : Runs C B8 0 0 15 [vr a, vi i1, vi i2, vi i3, vi i4, vi i5] [] (top, (a, 18, ob) :: H) (Ans none (top, (a, 18, res) :: H)) := by
  delta X_fillFrame_w15 at hf
  refine Runs.iload d8_15 rfl <| Runs.iconst d8_17 ci_4 <| ?_
  refine ite_el hf (fun hc1 hf => ?_) (fun hc1 hf => ?_)
  · refine Runs.icN d8_18 (tlt hc1).2.1 <| ?_
    refine Runs.iloadN d8_21 rfl <| ?_
    refine ite_el hf (fun hc2 hf => ?_) (fun hc2 hf => ?_)
    · refine Runs.ifY (pc' := 49) d8_22 (tlt hc2).1 (by decide) <| ?_
      refine Runs.aloadN d8_49 rfl <| Runs.getA d8_50 fA_15 w41 (by decide) <| Runs.iload d8_53 rfl <| Runs.iload d8_55 rfl <| Runs.iadd d8_57 <| Runs.iconst d8_58 ci_0 <| ?_
      refine chk_el hf fun hi3 hf => ?_
      exact Runs.iastoreA d8_59 fA_15 (by decide) hi3 <| Runs.iinc (P' := [vr a, vi i1, vi i2, vi i3, vi i4, vi (i5 + (1 : Int32))]) d8_60 ci_1 rfl (by decide) rfl <| Runs.goto (pc' := 15) d8_63 (by decide) <| hk15 (sA ob 15 (i4 + i5) (0 : Int32)) i1 i2 i3 i4 (i5 + (1 : Int32)) hf
    · refine Runs.ifN d8_22 (flt hc2).1 <| ?_
      refine Runs.aloadN d8_25 rfl <| Runs.getA d8_26 fA_15 w41 (by decide) <| Runs.iload d8_29 rfl <| Runs.iload d8_31 rfl <| Runs.iadd d8_33 <| Runs.aloadN d8_34 rfl <| Runs.getA d8_35 fA_17 w45 (by decide) <| Runs.iloadN d8_38 rfl <| Runs.iconst d8_39 ci_4 <| Runs.imul d8_40 <| Runs.iload d8_41 rfl <| Runs.iadd d8_43 <| ?_
      refine chk_el hf fun hi4 hf => ?_
      refine Runs.ialoadA d8_44 fA_17 (by decide) hi4 <| ?_
      refine chk_el hf fun hi5 hf => ?_
      exact Runs.iastoreA d8_45 fA_15 (by decide) hi5 <| Runs.goto (pc' := 60) d8_46 (by decide) <| Runs.iinc (P' := [vr a, vi i1, vi i2, vi i3, vi i4, vi (i5 + (1 : Int32))]) d8_60 ci_1 rfl (by decide) rfl <| Runs.goto (pc' := 15) d8_63 (by decide) <| hk15 (sA ob 15 (i4 + i5) (gA ob 17 ((i3 * (4 : Int32)) + i5))) i1 i2 i3 i4 (i5 + (1 : Int32)) hf
  · refine Runs.icY (pc' := 66) d8_18 (flt hc1).2.1 (by decide) <| ?_
    refine Runs.aloadN d8_66 rfl <| Runs.getA d8_67 fA_12 w35 (by decide) <| Runs.iloadN d8_70 rfl <| Runs.iloadN d8_71 rfl <| ?_
    refine chk_el hf fun hi6 hf => ?_
    refine Runs.iastoreA d8_72 fA_12 (by decide) hi6 <| Runs.aloadN d8_73 rfl <| Runs.getA d8_74 fA_13 w37 (by decide) <| Runs.iloadN d8_77 rfl <| Runs.iconst d8_78 ci_0 <| ?_
    refine chk_el hf fun hi7 hf => ?_
    refine Runs.bastoreA (y := (0 : Int32)) d8_79 fA_13 (by decide) hi7 rfl <| Runs.aloadN d8_80 rfl <| Runs.getA d8_81 fA_14 w39 (by decide) <| Runs.iloadN d8_84 rfl <| Runs.iconst d8_85 ci_0 <| ?_
    refine chk_el hf fun hi8 hf => ?_
    refine Runs.bastoreA (y := (0 : Int32)) d8_86 fA_14 (by decide) hi8 rfl <| Runs.aloadN d8_87 rfl <| Runs.getA d8_88 fA_9 w29 (by decide) <| Runs.iloadN d8_91 rfl <| Runs.iloadN d8_92 rfl <| ?_
    refine chk_el hf fun hi9 hf => ?_
    refine Runs.iastoreA d8_93 fA_9 (by decide) hi9 <| Runs.aloadN d8_94 rfl <| Runs.getA d8_95 fA_11 w33 (by decide) <| Runs.iloadN d8_98 rfl <| Runs.aloadN d8_99 rfl <| Runs.getA d8_100 fA_1 w13 (by decide) <| Runs.iloadN d8_103 rfl <| Runs.bipush d8_104 cb_16 <| Runs.idiv d8_106 (by decide) <| ?_
    refine chk_el hf fun hi10 hf => ?_
    refine Runs.ialoadA d8_107 fA_1 (by decide) hi10 <| ?_
    refine chk_el hf fun hi11 hf => ?_
    obtain rfl := Option.some.inj hf
    exact Runs.iastoreA d8_108 fA_11 (by decide) hi11 <| Runs.retV d8_109 rfl ⟨by decide, by decide⟩ ⟨rfl, rfl⟩
theorem X_fillFrame_l15_p {C : Ctx} {top : Nat} {a : Nat} {H : List (Nat × Nat × Rec)} {res : Rec} {NF : Nat} (n : Nat) (ob : Rec) (i1 : Int32) (i2 : Int32) (i3 : Int32) (i4 : Int32) (i5 : Int32) (hf : X_fillFrame_l15 NF n ob i1 i2 i3 i4 i5 = some res) : Runs C B8 0 0 15 [vr a, vi i1, vi i2, vi i3, vi i4, vi i5] [] (top, (a, 18, ob) :: H) (Ans none (top, (a, 18, res) :: H)) := by
  induction n generalizing ob i1 i2 i3 i4 i5 with
  | zero => cases (show (none : Option (Rec)) = some res from hf)
  | succ n ih => exact X_fillFrame_w15_p (X_fillFrame_l15 NF n) (fun ob i1 i2 i3 i4 i5 h => ih _ _ _ _ _ _ h) ob i1 i2 i3 i4 i5 hf
def X_fillFrame (NF : Nat) (ob : Rec) (i1 : Int32) (i2 : Int32) : Option (Rec) :=
  chk (64 : Int32) i2 <|
  X_fillFrame_l15 NF NF ob i1 i2 (gA ob 10 i2) (i1 * (4 : Int32)) (0 : Int32)
set_option maxRecDepth 65536 in
set_option maxHeartbeats 4000000 in
theorem X_fillFrame_p {C : Ctx} {top : Nat} {a : Nat} {H : List (Nat × Nat × Rec)} {res : Rec} {NF : Nat} (ob : Rec) (i1 : Int32) (i2 : Int32) (hf : X_fillFrame NF ob i1 i2 = some res) : Runs C B8 0 0 0 [vr a, vi i1, vi i2, vn, vn, vn] [] (top, (a, 18, ob) :: H) (Ans none (top, (a, 18, res) :: H)) := by
  delta X_fillFrame at hf
  refine Runs.aloadN d8_0 rfl <| Runs.getA d8_1 fA_10 w31 (by decide) <| Runs.iloadN d8_4 rfl <| ?_
  refine chk_el hf fun hi12 hf => ?_
  exact Runs.ialoadA d8_5 fA_10 (by decide) hi12 <| Runs.istoreN (P' := [vr a, vi i1, vi i2, vi (gA ob 10 i2), vn, vn]) d8_6 (by decide) rfl <| Runs.iloadN d8_7 rfl <| Runs.iconst d8_8 ci_4 <| Runs.imul d8_9 <| Runs.istore (P' := [vr a, vi i1, vi i2, vi (gA ob 10 i2), vi (i1 * (4 : Int32)), vn]) d8_10 (by decide) rfl <| Runs.iconst d8_12 ci_0 <| Runs.istore (P' := [vr a, vi i1, vi i2, vi (gA ob 10 i2), vi (i1 * (4 : Int32)), vi (0 : Int32)]) d8_13 (by decide) rfl <| X_fillFrame_l15_p NF ob i1 i2 (gA ob 10 i2) (i1 * (4 : Int32)) (0 : Int32) hf
theorem X_fillFrame_pay {C : Ctx} {top : Nat} {a : Nat} {H : List (Nat × Nat × Rec)} {res : Rec} {NF : Nat} {ob : Rec} {i1 : Int32} {i2 : Int32} (hf : X_fillFrame NF ob i1 i2 = some res) : Pays C B8 [.ref a, .int i1, .int i2] (top, (a, 18, ob) :: H) (Ans none (top, (a, 18, res) :: H)) :=
  Pays.of pnK (Nat.le_of_ble_eq_true rfl) (P := [vr a, vi i1, vi i2, vn, vn, vn]) 3 rfl (X_fillFrame_p ob i1 i2 hf)
def X_ensureResident_b46 (NF : Nat) (ob : Rec) (i3 : Int32) (i4 : Int32) : Option (Int32 × Rec) :=
  (X_fillFrame NF ob i4 i3).bind fun q1 =>
  some (i4, q1)
set_option maxRecDepth 65536 in
set_option maxHeartbeats 4000000 in
theorem X_ensureResident_b46_p {C : Ctx} {top : Nat} {a : Nat} {H : List (Nat × Nat × Rec)} {res : Int32 × Rec} {NF : Nat} (ob : Rec) (i3 : Int32) (i4 : Int32) (hf : X_ensureResident_b46 NF ob i3 i4 = some res) : Runs C B6 0 0 46 [vr a, vn, vn, vi i3, vi i4] [] (top, (a, 18, ob) :: H) (Ans (some (.int res.1)) (top, (a, 18, res.2) :: H)) := by
  delta X_ensureResident_b46 at hf
  refine Runs.aloadN d6_46 rfl <| Runs.iload d6_47 rfl <| Runs.iloadN d6_49 rfl <| ?_
  refine bind_el hf fun q1 hg2 hf => ?_
  obtain rfl := Option.some.inj hf
  exact Runs.callP (N := B8) (W := 0) (as := [.int i4, .int i3]) (S' := []) d6_50 w88 w89 w90 rfl cw8 ar8 rk6_8_0 (by decide) rfl rfl (X_fillFrame_pay hg2) <| ans0 <| Runs.iload d6_53 rfl <| Runs.retI d6_55 rfl ⟨by decide, by decide⟩ ⟨rfl, rfl⟩
def X_ensureResident (NF : Nat) (ob : Rec) (i1 : Int32) (i2 : Int32) : Option (Int32 × Rec) :=
  chk (64 : Int32) ((i1 * (16 : Int32)) + i2) <|
  if (gA ob 9 ((i1 * (16 : Int32)) + i2)) < (0 : Int32) then
    (X_findFreeFrame NF ob).bind fun r5 =>
    if r5 < (0 : Int32) then
      bind2 (X_chooseVictim NF ob) fun r8 q9 =>
      (X_evictFrame NF q9 r8).bind fun q11 =>
      X_ensureResident_b46 NF q11 ((i1 * (16 : Int32)) + i2) r8
    else
      X_ensureResident_b46 NF ob ((i1 * (16 : Int32)) + i2) r5
  else
    some ((gA ob 9 ((i1 * (16 : Int32)) + i2)), ob)
set_option maxRecDepth 65536 in
set_option maxHeartbeats 4000000 in
theorem X_ensureResident_p {C : Ctx} {top : Nat} {a : Nat} {H : List (Nat × Nat × Rec)} {res : Int32 × Rec} {NF : Nat} (ob : Rec) (i1 : Int32) (i2 : Int32) (hf : X_ensureResident NF ob i1 i2 = some res) : Runs C B6 0 0 0 [vr a, vi i1, vi i2, vn, vn] [] (top, (a, 18, ob) :: H) (Ans (some (.int res.1)) (top, (a, 18, res.2) :: H)) := by
  delta X_ensureResident at hf
  refine Runs.iloadN d6_0 rfl <| Runs.bipush d6_1 cb_16 <| Runs.imul d6_3 <| Runs.iloadN d6_4 rfl <| Runs.iadd d6_5 <| Runs.istoreN (P' := [vr a, vi i1, vi i2, vi ((i1 * (16 : Int32)) + i2), vn]) d6_6 (by decide) rfl <| Runs.aloadN d6_7 rfl <| Runs.getA d6_8 fA_9 w29 (by decide) <| Runs.iloadN d6_11 rfl <| ?_
  refine chk_el hf fun hi3 hf => ?_
  refine Runs.ialoadA d6_12 fA_9 (by decide) hi3 <| Runs.istore (P' := [vr a, vi i1, vi i2, vi ((i1 * (16 : Int32)) + i2), vi (gA ob 9 ((i1 * (16 : Int32)) + i2))]) d6_13 (by decide) rfl <| Runs.iload d6_15 rfl <| ?_
  refine ite_el hf (fun hc4 hf => ?_) (fun hc4 hf => ?_)
  · refine Runs.ifY (pc' := 23) d6_17 (tlt hc4).1 (by decide) <| ?_
    refine Runs.aloadN d6_23 rfl <| ?_
    refine bind_el hf fun r5 hg6 hf => ?_
    refine Runs.callP (N := B7) (W := 0) (as := []) (S' := []) d6_24 w84 w85 w86 rfl cw7 ar7 rk6_7_0 (by decide) rfl rfl (X_findFreeFrame_pay hg6) <| ans1 <| Runs.istore (P' := [vr a, vi i1, vi i2, vi ((i1 * (16 : Int32)) + i2), vi r5]) d6_27 (by decide) rfl <| Runs.iload d6_29 rfl <| ?_
    refine ite_el hf (fun hc7 hf => ?_) (fun hc7 hf => ?_)
    · refine Runs.ifN d6_31 (tlt hc7).2.1 <| ?_
      refine Runs.aloadN d6_34 rfl <| ?_
      refine bind2_el hf fun r8 q9 hg10 hf => ?_
      refine Runs.callP (N := B13) (W := 0) (as := []) (S' := []) d6_35 w109 w110 w111 rfl cw13 ar13 rk6_13_0 (by decide) rfl rfl (X_chooseVictim_pay hg10) <| ans1 <| Runs.istore (P' := [vr a, vi i1, vi i2, vi ((i1 * (16 : Int32)) + i2), vi r8]) d6_38 (by decide) rfl <| Runs.aloadN d6_40 rfl <| Runs.iload d6_41 rfl <| ?_
      refine bind_el hf fun q11 hg12 hf => ?_
      exact Runs.callP (N := B14) (W := 0) (as := [.int r8]) (S' := []) d6_43 w113 w114 w115 rfl cw14 ar14 rk6_14_0 (by decide) rfl rfl (X_evictFrame_pay hg12) <| ans0 <| Runs.forget [true, false, false, true, true] rfl <| X_ensureResident_b46_p q11 ((i1 * (16 : Int32)) + i2) r8 hf
    · exact Runs.ifY (pc' := 46) d6_31 (flt hc7).2.1 (by decide) <| Runs.forget [true, false, false, true, true] rfl <| X_ensureResident_b46_p ob ((i1 * (16 : Int32)) + i2) r5 hf
  · refine Runs.ifN d6_17 (flt hc4).1 <| ?_
    obtain rfl := Option.some.inj hf
    exact Runs.iload d6_20 rfl <| Runs.retI d6_22 rfl ⟨by decide, by decide⟩ ⟨rfl, rfl⟩
theorem X_ensureResident_pay {C : Ctx} {top : Nat} {a : Nat} {H : List (Nat × Nat × Rec)} {res : Int32 × Rec} {NF : Nat} {ob : Rec} {i1 : Int32} {i2 : Int32} (hf : X_ensureResident NF ob i1 i2 = some res) : Pays C B6 [.ref a, .int i1, .int i2] (top, (a, 18, ob) :: H) (Ans (some (.int res.1)) (top, (a, 18, res.2) :: H)) :=
  Pays.of pnK (Nat.le_of_ble_eq_true rfl) (P := [vr a, vi i1, vi i2, vn, vn]) 2 rfl (X_ensureResident_p ob i1 i2 hf)
def X_pushWindow_b135 (ob : Rec) (i1 : Int32) (i2 : Int32) (i3 : Int32) (i4 : Int32) : Option (Rec) :=
  chk (64 : Int32) (i3 + i2) <|
  chk (64 : Int32) (i3 + i2) <|
  dvz (gI ob 3) <|
  chk (4 : Int32) i1 <|
  some (sA (sA ob 7 (i3 + i2) ((gA ob 7 (i3 + i2)) + (1 : Int32))) 3 i1 ((i4 + (1 : Int32)) % (gI ob 3)))
set_option maxRecDepth 65536 in
set_option maxHeartbeats 4000000 in
theorem X_pushWindow_b135_p {C : Ctx} {top : Nat} {a : Nat} {H : List (Nat × Nat × Rec)} {res : Rec} (ob : Rec) (i1 : Int32) (i2 : Int32) (i3 : Int32) (i4 : Int32) (hf : X_pushWindow_b135 ob i1 i2 i3 i4 = some res) : Runs C B10 0 0 135 [vr a, vi i1, vi i2, vi i3, vi i4, vn] [] (top, (a, 18, ob) :: H) (Ans none (top, (a, 18, res) :: H)) := by
  delta X_pushWindow_b135 at hf
  refine Runs.aloadN d10_135 rfl <| Runs.getA d10_136 fA_7 w25 (by decide) <| Runs.iloadN d10_139 rfl <| Runs.iloadN d10_140 rfl <| Runs.iadd d10_141 <| Runs.aloadN d10_142 rfl <| Runs.getA d10_143 fA_7 w25 (by decide) <| Runs.iloadN d10_146 rfl <| Runs.iloadN d10_147 rfl <| Runs.iadd d10_148 <| ?_
  refine chk_el hf fun hi6 hf => ?_
  refine Runs.ialoadA d10_149 fA_7 (by decide) hi6 <| Runs.iconst d10_150 ci_1 <| Runs.iadd d10_151 <| ?_
  refine chk_el hf fun hi7 hf => ?_
  refine Runs.iastoreA d10_152 fA_7 (by decide) hi7 <| Runs.aloadN d10_153 rfl <| Runs.getA d10_154 fA_3 w17 (by decide) <| Runs.iloadN d10_157 rfl <| Runs.iload d10_158 rfl <| Runs.iconst d10_160 ci_1 <| Runs.iadd d10_161 <| Runs.aloadN d10_162 rfl <| Runs.getI d10_163 w57 fS_3 <| ?_
  refine dvz_el hf fun hz8 hf => ?_
  refine Runs.irem d10_166 hz8 <| ?_
  refine chk_el hf fun hi9 hf => ?_
  obtain rfl := Option.some.inj hf
  exact Runs.iastoreA d10_167 fA_3 (by decide) hi9 <| Runs.retV d10_168 rfl ⟨by decide, by decide⟩ ⟨rfl, rfl⟩
def X_pushWindow_b100 (ob : Rec) (i1 : Int32) (i2 : Int32) (i3 : Int32) (i4 : Int32) : Option (Rec) :=
  chk (64 : Int32) (i3 + i4) <|
  chk (64 : Int32) (i3 + i2) <|
  if (gA ob 7 (i3 + i2)) = (0 : Int32) then
    chk (4 : Int32) i1 <|
    chk (4 : Int32) i1 <|
    X_pushWindow_b135 (sA (sA ob 6 (i3 + i4) i2) 4 i1 ((gA ob 4 i1) + (1 : Int32))) i1 i2 i3 i4
  else
    X_pushWindow_b135 (sA ob 6 (i3 + i4) i2) i1 i2 i3 i4
set_option maxRecDepth 65536 in
set_option maxHeartbeats 4000000 in
theorem X_pushWindow_b100_p {C : Ctx} {top : Nat} {a : Nat} {H : List (Nat × Nat × Rec)} {res : Rec} (ob : Rec) (i1 : Int32) (i2 : Int32) (i3 : Int32) (i4 : Int32) (hf : X_pushWindow_b100 ob i1 i2 i3 i4 = some res) : Runs C B10 0 0 100 [vr a, vi i1, vi i2, vi i3, vi i4, vn] [] (top, (a, 18, ob) :: H) (Ans none (top, (a, 18, res) :: H)) := by
  delta X_pushWindow_b100 at hf
  refine Runs.aloadN d10_100 rfl <| Runs.getA d10_101 fA_6 w23 (by decide) <| Runs.iloadN d10_104 rfl <| Runs.iload d10_105 rfl <| Runs.iadd d10_107 <| Runs.iloadN d10_108 rfl <| ?_
  refine chk_el hf fun hi1 hf => ?_
  refine Runs.iastoreA d10_109 fA_6 (by decide) hi1 <| Runs.aloadN d10_110 rfl <| Runs.getA d10_111 fA_7 w25 (by decide) <| Runs.iloadN d10_114 rfl <| Runs.iloadN d10_115 rfl <| Runs.iadd d10_116 <| ?_
  refine chk_el hf fun hi2 hf => ?_
  refine Runs.ialoadA d10_117 fA_7 (by decide) hi2 <| ?_
  refine ite_el hf (fun hc3 hf => ?_) (fun hc3 hf => ?_)
  · refine Runs.ifN d10_118 (teq hc3).2 <| ?_
    refine Runs.aloadN d10_121 rfl <| Runs.getA d10_122 fA_4 w19 (by decide) <| Runs.iloadN d10_125 rfl <| Runs.aloadN d10_126 rfl <| Runs.getA d10_127 fA_4 w19 (by decide) <| Runs.iloadN d10_130 rfl <| ?_
    refine chk_el hf fun hi4 hf => ?_
    refine Runs.ialoadA d10_131 fA_4 (by decide) hi4 <| Runs.iconst d10_132 ci_1 <| Runs.iadd d10_133 <| ?_
    refine chk_el hf fun hi5 hf => ?_
    exact Runs.iastoreA d10_134 fA_4 (by decide) hi5 <| X_pushWindow_b135_p (sA (sA ob 6 (i3 + i4) i2) 4 i1 ((gA ob 4 i1) + (1 : Int32))) i1 i2 i3 i4 hf
  · exact Runs.ifY (pc' := 135) d10_118 (feq hc3).2 (by decide) <| X_pushWindow_b135_p (sA ob 6 (i3 + i4) i2) i1 i2 i3 i4 hf
def X_pushWindow (ob : Rec) (i1 : Int32) (i2 : Int32) : Option (Rec) :=
  chk (4 : Int32) i1 <|
  chk (4 : Int32) i1 <|
  if (gA ob 2 i1) < (gI ob 3) then
    chk (4 : Int32) i1 <|
    chk (4 : Int32) i1 <|
    X_pushWindow_b100 (sA ob 2 i1 ((gA ob 2 i1) + (1 : Int32))) i1 i2 (i1 * (16 : Int32)) (gA ob 3 i1)
  else
    chk (64 : Int32) ((i1 * (16 : Int32)) + (gA ob 3 i1)) <|
    chk (64 : Int32) ((i1 * (16 : Int32)) + (gA ob 6 ((i1 * (16 : Int32)) + (gA ob 3 i1)))) <|
    chk (64 : Int32) ((i1 * (16 : Int32)) + (gA ob 6 ((i1 * (16 : Int32)) + (gA ob 3 i1)))) <|
    chk (64 : Int32) ((i1 * (16 : Int32)) + (gA ob 6 ((i1 * (16 : Int32)) + (gA ob 3 i1)))) <|
    if (gA (sA ob 7 ((i1 * (16 : Int32)) + (gA ob 6 ((i1 * (16 : Int32)) + (gA ob 3 i1)))) ((gA ob 7 ((i1 * (16 : Int32)) + (gA ob 6 ((i1 * (16 : Int32)) + (gA ob 3 i1))))) - (1 : Int32))) 7 ((i1 * (16 : Int32)) + (gA ob 6 ((i1 * (16 : Int32)) + (gA ob 3 i1))))) = (0 : Int32) then
      chk (4 : Int32) i1 <|
      chk (4 : Int32) i1 <|
      X_pushWindow_b100 (sA (sA ob 7 ((i1 * (16 : Int32)) + (gA ob 6 ((i1 * (16 : Int32)) + (gA ob 3 i1)))) ((gA ob 7 ((i1 * (16 : Int32)) + (gA ob 6 ((i1 * (16 : Int32)) + (gA ob 3 i1))))) - (1 : Int32))) 4 i1 ((gA ob 4 i1) - (1 : Int32))) i1 i2 (i1 * (16 : Int32)) (gA ob 3 i1)
    else
      X_pushWindow_b100 (sA ob 7 ((i1 * (16 : Int32)) + (gA ob 6 ((i1 * (16 : Int32)) + (gA ob 3 i1)))) ((gA ob 7 ((i1 * (16 : Int32)) + (gA ob 6 ((i1 * (16 : Int32)) + (gA ob 3 i1))))) - (1 : Int32))) i1 i2 (i1 * (16 : Int32)) (gA ob 3 i1)
set_option maxRecDepth 65536 in
set_option maxHeartbeats 4000000 in
theorem X_pushWindow_p {C : Ctx} {top : Nat} {a : Nat} {H : List (Nat × Nat × Rec)} {res : Rec} (ob : Rec) (i1 : Int32) (i2 : Int32) (hf : X_pushWindow ob i1 i2 = some res) : Runs C B10 0 0 0 [vr a, vi i1, vi i2, vn, vn, vn] [] (top, (a, 18, ob) :: H) (Ans none (top, (a, 18, res) :: H)) := by
  delta X_pushWindow at hf
  refine Runs.iloadN d10_0 rfl <| Runs.bipush d10_1 cb_16 <| Runs.imul d10_3 <| Runs.istoreN (P' := [vr a, vi i1, vi i2, vi (i1 * (16 : Int32)), vn, vn]) d10_4 (by decide) rfl <| Runs.aloadN d10_5 rfl <| Runs.getA d10_6 fA_3 w17 (by decide) <| Runs.iloadN d10_9 rfl <| ?_
  refine chk_el hf fun hi10 hf => ?_
  refine Runs.ialoadA d10_10 fA_3 (by decide) hi10 <| Runs.istore (P' := [vr a, vi i1, vi i2, vi (i1 * (16 : Int32)), vi (gA ob 3 i1), vn]) d10_11 (by decide) rfl <| Runs.aloadN d10_13 rfl <| Runs.getA d10_14 fA_2 w15 (by decide) <| Runs.iloadN d10_17 rfl <| ?_
  refine chk_el hf fun hi11 hf => ?_
  refine Runs.ialoadA d10_18 fA_2 (by decide) hi11 <| Runs.aloadN d10_19 rfl <| Runs.getI d10_20 w57 fS_3 <| ?_
  refine ite_el hf (fun hc12 hf => ?_) (fun hc12 hf => ?_)
  · refine Runs.icY (pc' := 86) d10_23 (tlt hc12).1 (by decide) <| ?_
    refine Runs.aloadN d10_86 rfl <| Runs.getA d10_87 fA_2 w15 (by decide) <| Runs.iloadN d10_90 rfl <| Runs.aloadN d10_91 rfl <| Runs.getA d10_92 fA_2 w15 (by decide) <| Runs.iloadN d10_95 rfl <| ?_
    refine chk_el hf fun hi13 hf => ?_
    refine Runs.ialoadA d10_96 fA_2 (by decide) hi13 <| Runs.iconst d10_97 ci_1 <| Runs.iadd d10_98 <| ?_
    refine chk_el hf fun hi14 hf => ?_
    exact Runs.iastoreA d10_99 fA_2 (by decide) hi14 <| X_pushWindow_b100_p (sA ob 2 i1 ((gA ob 2 i1) + (1 : Int32))) i1 i2 (i1 * (16 : Int32)) (gA ob 3 i1) hf
  · refine Runs.icN d10_23 (flt hc12).1 <| ?_
    refine Runs.aloadN d10_26 rfl <| Runs.getA d10_27 fA_6 w23 (by decide) <| Runs.iloadN d10_30 rfl <| Runs.iload d10_31 rfl <| Runs.iadd d10_33 <| ?_
    refine chk_el hf fun hi15 hf => ?_
    refine Runs.ialoadA d10_34 fA_6 (by decide) hi15 <| Runs.istore (P' := [vr a, vi i1, vi i2, vi (i1 * (16 : Int32)), vi (gA ob 3 i1), vi (gA ob 6 ((i1 * (16 : Int32)) + (gA ob 3 i1)))]) d10_35 (by decide) rfl <| Runs.aloadN d10_37 rfl <| Runs.getA d10_38 fA_7 w25 (by decide) <| Runs.iloadN d10_41 rfl <| Runs.iload d10_42 rfl <| Runs.iadd d10_44 <| Runs.aloadN d10_45 rfl <| Runs.getA d10_46 fA_7 w25 (by decide) <| Runs.iloadN d10_49 rfl <| Runs.iload d10_50 rfl <| Runs.iadd d10_52 <| ?_
    refine chk_el hf fun hi16 hf => ?_
    refine Runs.ialoadA d10_53 fA_7 (by decide) hi16 <| Runs.iconst d10_54 ci_1 <| Runs.isub d10_55 <| ?_
    refine chk_el hf fun hi17 hf => ?_
    refine Runs.iastoreA d10_56 fA_7 (by decide) hi17 <| Runs.aloadN d10_57 rfl <| Runs.getA d10_58 fA_7 w25 (by decide) <| Runs.iloadN d10_61 rfl <| Runs.iload d10_62 rfl <| Runs.iadd d10_64 <| ?_
    refine chk_el hf fun hi18 hf => ?_
    refine Runs.ialoadA d10_65 fA_7 (by decide) hi18 <| ?_
    refine ite_el hf (fun hc19 hf => ?_) (fun hc19 hf => ?_)
    · refine Runs.ifN d10_66 (teq hc19).2 <| ?_
      refine Runs.aloadN d10_69 rfl <| Runs.getA d10_70 fA_4 w19 (by decide) <| Runs.iloadN d10_73 rfl <| Runs.aloadN d10_74 rfl <| Runs.getA d10_75 fA_4 w19 (by decide) <| Runs.iloadN d10_78 rfl <| ?_
      refine chk_el hf fun hi20 hf => ?_
      refine Runs.ialoadA d10_79 fA_4 (by decide) hi20 <| Runs.iconst d10_80 ci_1 <| Runs.isub d10_81 <| ?_
      refine chk_el hf fun hi21 hf => ?_
      exact Runs.iastoreA d10_82 fA_4 (by decide) hi21 <| Runs.goto (pc' := 100) d10_83 (by decide) <| Runs.forget [true, true, true, true, true, false] rfl <| X_pushWindow_b100_p (sA (sA ob 7 ((i1 * (16 : Int32)) + (gA ob 6 ((i1 * (16 : Int32)) + (gA ob 3 i1)))) ((gA ob 7 ((i1 * (16 : Int32)) + (gA ob 6 ((i1 * (16 : Int32)) + (gA ob 3 i1))))) - (1 : Int32))) 4 i1 ((gA ob 4 i1) - (1 : Int32))) i1 i2 (i1 * (16 : Int32)) (gA ob 3 i1) hf
    · refine Runs.ifY (pc' := 83) d10_66 (feq hc19).2 (by decide) <| ?_
      exact Runs.goto (pc' := 100) d10_83 (by decide) <| Runs.forget [true, true, true, true, true, false] rfl <| X_pushWindow_b100_p (sA ob 7 ((i1 * (16 : Int32)) + (gA ob 6 ((i1 * (16 : Int32)) + (gA ob 3 i1)))) ((gA ob 7 ((i1 * (16 : Int32)) + (gA ob 6 ((i1 * (16 : Int32)) + (gA ob 3 i1))))) - (1 : Int32))) i1 i2 (i1 * (16 : Int32)) (gA ob 3 i1) hf
theorem X_pushWindow_pay {C : Ctx} {top : Nat} {a : Nat} {H : List (Nat × Nat × Rec)} {res : Rec} {ob : Rec} {i1 : Int32} {i2 : Int32} (hf : X_pushWindow ob i1 i2 = some res) : Pays C B10 [.ref a, .int i1, .int i2] (top, (a, 18, ob) :: H) (Ans none (top, (a, 18, res) :: H)) :=
  Pays.of pnK (Nat.le_of_ble_eq_true rfl) (P := [vr a, vi i1, vi i2, vn, vn, vn]) 3 rfl (X_pushWindow_p ob i1 i2 hf)
def X_recordReference_b28 (ob : Rec) (i1 : Int32) (i2 : Int32) (i3 : Int32) : Option (Rec) :=
  chk (4 : Int32) i1 <|
  chk (4 : Int32) i1 <|
  chk (4 : Int32) i1 <|
  chk (64 : Int32) i3 <|
  (X_pushWindow (sA (sA ob 1 i1 ((gA ob 1 i1) + (1 : Int32))) 11 i3 (gA (sA ob 1 i1 ((gA ob 1 i1) + (1 : Int32))) 1 i1)) i1 i2).bind fun q5 =>
  chk (64 : Int32) i3 <|
  if (gA q5 8 i3) = (0 : Int32) then
    chk (64 : Int32) i3 <|
    chk (4 : Int32) i1 <|
    chk (4 : Int32) i1 <|
    some (sA (sA q5 8 i3 (1 : Int32)) 5 i1 ((gA q5 5 i1) + (1 : Int32)))
  else
    some q5
set_option maxRecDepth 65536 in
set_option maxHeartbeats 4000000 in
theorem X_recordReference_b28_p {C : Ctx} {top : Nat} {a : Nat} {H : List (Nat × Nat × Rec)} {res : Rec} (ob : Rec) (i1 : Int32) (i2 : Int32) (i3 : Int32) (hf : X_recordReference_b28 ob i1 i2 i3 = some res) : Runs C B9 0 0 28 [vr a, vi i1, vi i2, vi i3, vn] [] (top, (a, 18, ob) :: H) (Ans none (top, (a, 18, res) :: H)) := by
  delta X_recordReference_b28 at hf
  refine Runs.aloadN d9_28 rfl <| Runs.getA d9_29 fA_1 w13 (by decide) <| Runs.iloadN d9_32 rfl <| Runs.aloadN d9_33 rfl <| Runs.getA d9_34 fA_1 w13 (by decide) <| Runs.iloadN d9_37 rfl <| ?_
  refine chk_el hf fun hi1 hf => ?_
  refine Runs.ialoadA d9_38 fA_1 (by decide) hi1 <| Runs.iconst d9_39 ci_1 <| Runs.iadd d9_40 <| ?_
  refine chk_el hf fun hi2 hf => ?_
  refine Runs.iastoreA d9_41 fA_1 (by decide) hi2 <| Runs.aloadN d9_42 rfl <| Runs.getA d9_43 fA_11 w33 (by decide) <| Runs.iloadN d9_46 rfl <| Runs.aloadN d9_47 rfl <| Runs.getA d9_48 fA_1 w13 (by decide) <| Runs.iloadN d9_51 rfl <| ?_
  refine chk_el hf fun hi3 hf => ?_
  refine Runs.ialoadA d9_52 fA_1 (by decide) hi3 <| ?_
  refine chk_el hf fun hi4 hf => ?_
  refine Runs.iastoreA d9_53 fA_11 (by decide) hi4 <| Runs.aloadN d9_54 rfl <| Runs.iloadN d9_55 rfl <| Runs.iloadN d9_56 rfl <| ?_
  refine bind_el hf fun q5 hg6 hf => ?_
  refine Runs.callP (N := B10) (W := 0) (as := [.int i1, .int i2]) (S' := []) d9_57 w96 w97 w98 rfl cw10 ar10 rk9_10_0 (by decide) rfl rfl (X_pushWindow_pay hg6) <| ans0 <| Runs.aloadN d9_60 rfl <| Runs.getA d9_61 fA_8 w27 (by decide) <| Runs.iloadN d9_64 rfl <| ?_
  refine chk_el hf fun hi7 hf => ?_
  refine Runs.baloadA d9_65 fA_8 (by decide) hi7 <| ?_
  refine ite_el hf (fun hc8 hf => ?_) (fun hc8 hf => ?_)
  · refine Runs.ifN d9_66 (teq hc8).2 <| ?_
    refine Runs.aloadN d9_69 rfl <| Runs.getA d9_70 fA_8 w27 (by decide) <| Runs.iloadN d9_73 rfl <| Runs.iconst d9_74 ci_1 <| ?_
    refine chk_el hf fun hi9 hf => ?_
    refine Runs.bastoreA (y := (1 : Int32)) d9_75 fA_8 (by decide) hi9 rfl <| Runs.aloadN d9_76 rfl <| Runs.getA d9_77 fA_5 w21 (by decide) <| Runs.iloadN d9_80 rfl <| Runs.aloadN d9_81 rfl <| Runs.getA d9_82 fA_5 w21 (by decide) <| Runs.iloadN d9_85 rfl <| ?_
    refine chk_el hf fun hi10 hf => ?_
    refine Runs.ialoadA d9_86 fA_5 (by decide) hi10 <| Runs.iconst d9_87 ci_1 <| Runs.iadd d9_88 <| ?_
    refine chk_el hf fun hi11 hf => ?_
    obtain rfl := Option.some.inj hf
    exact Runs.iastoreA d9_89 fA_5 (by decide) hi11 <| Runs.retV d9_90 rfl ⟨by decide, by decide⟩ ⟨rfl, rfl⟩
  · refine Runs.ifY (pc' := 90) d9_66 (feq hc8).2 (by decide) <| ?_
    obtain rfl := Option.some.inj hf
    exact Runs.retV d9_90 rfl ⟨by decide, by decide⟩ ⟨rfl, rfl⟩
def X_recordReference (ob : Rec) (i1 : Int32) (i2 : Int32) : Option (Rec) :=
  chk (64 : Int32) ((i1 * (16 : Int32)) + i2) <|
  if (gA ob 9 ((i1 * (16 : Int32)) + i2)) < (0 : Int32) then
    X_recordReference_b28 ob i1 i2 ((i1 * (16 : Int32)) + i2)
  else
    chk (32 : Int32) (gA ob 9 ((i1 * (16 : Int32)) + i2)) <|
    X_recordReference_b28 (sA ob 13 (gA ob 9 ((i1 * (16 : Int32)) + i2)) (1 : Int32)) i1 i2 ((i1 * (16 : Int32)) + i2)
set_option maxRecDepth 65536 in
set_option maxHeartbeats 4000000 in
theorem X_recordReference_p {C : Ctx} {top : Nat} {a : Nat} {H : List (Nat × Nat × Rec)} {res : Rec} (ob : Rec) (i1 : Int32) (i2 : Int32) (hf : X_recordReference ob i1 i2 = some res) : Runs C B9 0 0 0 [vr a, vi i1, vi i2, vn, vn] [] (top, (a, 18, ob) :: H) (Ans none (top, (a, 18, res) :: H)) := by
  delta X_recordReference at hf
  refine Runs.iloadN d9_0 rfl <| Runs.bipush d9_1 cb_16 <| Runs.imul d9_3 <| Runs.iloadN d9_4 rfl <| Runs.iadd d9_5 <| Runs.istoreN (P' := [vr a, vi i1, vi i2, vi ((i1 * (16 : Int32)) + i2), vn]) d9_6 (by decide) rfl <| Runs.aloadN d9_7 rfl <| Runs.getA d9_8 fA_9 w29 (by decide) <| Runs.iloadN d9_11 rfl <| ?_
  refine chk_el hf fun hi12 hf => ?_
  refine Runs.ialoadA d9_12 fA_9 (by decide) hi12 <| Runs.istore (P' := [vr a, vi i1, vi i2, vi ((i1 * (16 : Int32)) + i2), vi (gA ob 9 ((i1 * (16 : Int32)) + i2))]) d9_13 (by decide) rfl <| Runs.iload d9_15 rfl <| ?_
  refine ite_el hf (fun hc13 hf => ?_) (fun hc13 hf => ?_)
  · exact Runs.ifY (pc' := 28) d9_17 (tlt hc13).1 (by decide) <| Runs.forget [true, true, true, true, false] rfl <| X_recordReference_b28_p ob i1 i2 ((i1 * (16 : Int32)) + i2) hf
  · refine Runs.ifN d9_17 (flt hc13).1 <| ?_
    refine Runs.aloadN d9_20 rfl <| Runs.getA d9_21 fA_13 w37 (by decide) <| Runs.iload d9_24 rfl <| Runs.iconst d9_26 ci_1 <| ?_
    refine chk_el hf fun hi14 hf => ?_
    exact Runs.bastoreA (y := (1 : Int32)) d9_27 fA_13 (by decide) hi14 rfl <| Runs.forget [true, true, true, true, false] rfl <| X_recordReference_b28_p (sA ob 13 (gA ob 9 ((i1 * (16 : Int32)) + i2)) (1 : Int32)) i1 i2 ((i1 * (16 : Int32)) + i2) hf
theorem X_recordReference_pay {C : Ctx} {top : Nat} {a : Nat} {H : List (Nat × Nat × Rec)} {res : Rec} {ob : Rec} {i1 : Int32} {i2 : Int32} (hf : X_recordReference ob i1 i2 = some res) : Pays C B9 [.ref a, .int i1, .int i2] (top, (a, 18, ob) :: H) (Ans none (top, (a, 18, res) :: H)) :=
  Pays.of pnK (Nat.le_of_ble_eq_true rfl) (P := [vr a, vi i1, vi i2, vn, vn]) 2 rfl (X_recordReference_p ob i1 i2 hf)
def X_activeTotal_w4 (NF : Nat) (ob : Rec) (k4 : Int32 → Int32 → Option (Int32)) (i1 : Int32) (i2 : Int32) : Option (Int32) :=
  if i2 < (gI ob 0) then
    chk (4 : Int32) i2 <|
    if (gA ob 0 i2) = (0 : Int32) then
      chk (4 : Int32) i2 <|
      k4 (i1 + (gA ob 4 i2)) (i2 + (1 : Int32))
    else
      k4 i1 (i2 + (1 : Int32))
  else
    some i1
def X_activeTotal_l4 (NF : Nat) (ob : Rec) : Nat → Int32 → Int32 → Option (Int32)
  | 0, _, _ => none
  | n + 1, i1, i2 => X_activeTotal_w4 NF ob (X_activeTotal_l4 NF ob n) i1 i2
set_option maxRecDepth 65536 in
set_option maxHeartbeats 4000000 in
theorem X_activeTotal_w4_p {C : Ctx} {top : Nat} {a : Nat} {H : List (Nat × Nat × Rec)} {ob : Rec} {res : Int32} {NF : Nat} (k4 : Int32 → Int32 → Option (Int32)) (hk4 : ∀ (i1 : Int32) (i2 : Int32), k4 i1 i2 = some res → Runs C B12 0 0 4 [vr a, vi i1, vi i2] [] (top, (a, 18, ob) :: H) (Ans (some (.int res)) (top, (a, 18, ob) :: H))) (i1 : Int32) (i2 : Int32) (hf : X_activeTotal_w4 NF ob k4 i1 i2 = some res) : Runs C B12 0 0 4 [vr a, vi i1, vi i2] [] (top, (a, 18, ob) :: H) (Ans (some (.int res)) (top, (a, 18, ob) :: H)) := by
  delta X_activeTotal_w4 at hf
  refine Runs.iloadN d12_4 rfl <| Runs.aloadN d12_5 rfl <| Runs.getI d12_6 w51 fS_0 <| ?_
  refine ite_el hf (fun hc1 hf => ?_) (fun hc1 hf => ?_)
  · refine Runs.icN d12_9 (tlt hc1).2.1 <| ?_
    refine Runs.aloadN d12_12 rfl <| Runs.getA d12_13 fA_0 w10 (by decide) <| Runs.iloadN d12_16 rfl <| ?_
    refine chk_el hf fun hi2 hf => ?_
    refine Runs.baloadA d12_17 fA_0 (by decide) hi2 <| ?_
    refine ite_el hf (fun hc3 hf => ?_) (fun hc3 hf => ?_)
    · refine Runs.ifN d12_18 (teq hc3).2 <| ?_
      refine Runs.iloadN d12_21 rfl <| Runs.aloadN d12_22 rfl <| Runs.getA d12_23 fA_4 w19 (by decide) <| Runs.iloadN d12_26 rfl <| ?_
      refine chk_el hf fun hi4 hf => ?_
      exact Runs.ialoadA d12_27 fA_4 (by decide) hi4 <| Runs.iadd d12_28 <| Runs.istoreN (P' := [vr a, vi (i1 + (gA ob 4 i2)), vi i2]) d12_29 (by decide) rfl <| Runs.iinc (P' := [vr a, vi (i1 + (gA ob 4 i2)), vi (i2 + (1 : Int32))]) d12_30 ci_1 rfl (by decide) rfl <| Runs.goto (pc' := 4) d12_33 (by decide) <| hk4 (i1 + (gA ob 4 i2)) (i2 + (1 : Int32)) hf
    · refine Runs.ifY (pc' := 30) d12_18 (feq hc3).2 (by decide) <| ?_
      exact Runs.iinc (P' := [vr a, vi i1, vi (i2 + (1 : Int32))]) d12_30 ci_1 rfl (by decide) rfl <| Runs.goto (pc' := 4) d12_33 (by decide) <| hk4 i1 (i2 + (1 : Int32)) hf
  · refine Runs.icY (pc' := 36) d12_9 (flt hc1).2.1 (by decide) <| ?_
    obtain rfl := Option.some.inj hf
    exact Runs.iloadN d12_36 rfl <| Runs.retI d12_37 rfl ⟨by decide, by decide⟩ ⟨rfl, rfl⟩
theorem X_activeTotal_l4_p {C : Ctx} {top : Nat} {a : Nat} {H : List (Nat × Nat × Rec)} {ob : Rec} {res : Int32} {NF : Nat} (n : Nat) (i1 : Int32) (i2 : Int32) (hf : X_activeTotal_l4 NF ob n i1 i2 = some res) : Runs C B12 0 0 4 [vr a, vi i1, vi i2] [] (top, (a, 18, ob) :: H) (Ans (some (.int res)) (top, (a, 18, ob) :: H)) := by
  induction n generalizing i1 i2 with
  | zero => cases (show (none : Option (Int32)) = some res from hf)
  | succ n ih => exact X_activeTotal_w4_p (X_activeTotal_l4 NF ob n) (fun i1 i2 h => ih _ _ h) i1 i2 hf
def X_activeTotal (NF : Nat) (ob : Rec) : Option (Int32) :=
  X_activeTotal_l4 NF ob NF (0 : Int32) (0 : Int32)
set_option maxRecDepth 65536 in
set_option maxHeartbeats 4000000 in
theorem X_activeTotal_p {C : Ctx} {top : Nat} {a : Nat} {H : List (Nat × Nat × Rec)} {ob : Rec} {res : Int32} {NF : Nat} (hf : X_activeTotal NF ob = some res) : Runs C B12 0 0 0 [vr a, vn, vn] [] (top, (a, 18, ob) :: H) (Ans (some (.int res)) (top, (a, 18, ob) :: H)) := by
  delta X_activeTotal at hf
  exact Runs.iconst d12_0 ci_0 <| Runs.istoreN (P' := [vr a, vi (0 : Int32), vn]) d12_1 (by decide) rfl <| Runs.iconst d12_2 ci_0 <| Runs.istoreN (P' := [vr a, vi (0 : Int32), vi (0 : Int32)]) d12_3 (by decide) rfl <| X_activeTotal_l4_p NF (0 : Int32) (0 : Int32) hf
theorem X_activeTotal_pay {C : Ctx} {top : Nat} {a : Nat} {H : List (Nat × Nat × Rec)} {ob : Rec} {res : Int32} {NF : Nat} (hf : X_activeTotal NF ob = some res) : Pays C B12 [.ref a] (top, (a, 18, ob) :: H) (Ans (some (.int res)) (top, (a, 18, ob) :: H)) :=
  Pays.of pnK (Nat.le_of_ble_eq_true rfl) (P := [vr a, vn, vn]) 2 rfl (X_activeTotal_p hf)
def X_pickProcessToSuspend_w7 (NF : Nat) (ob : Rec) (k7 : Int32 → Int32 → Option (Int32)) (i1 : Int32) (i2 : Int32) : Option (Int32) :=
  if i2 < (0 : Int32) then
    some (-1 : Int32)
  else
    if i2 = i1 then
      k7 i1 (i2 + (-1 : Int32))
    else
      chk (4 : Int32) i2 <|
      if (gA ob 0 i2) = (0 : Int32) then
        chk (4 : Int32) i2 <|
        if (0 : Int32) < (gA ob 4 i2) then
          some i2
        else
          k7 i1 (i2 + (-1 : Int32))
      else
        k7 i1 (i2 + (-1 : Int32))
def X_pickProcessToSuspend_l7 (NF : Nat) (ob : Rec) : Nat → Int32 → Int32 → Option (Int32)
  | 0, _, _ => none
  | n + 1, i1, i2 => X_pickProcessToSuspend_w7 NF ob (X_pickProcessToSuspend_l7 NF ob n) i1 i2
set_option maxRecDepth 65536 in
set_option maxHeartbeats 4000000 in
theorem X_pickProcessToSuspend_w7_p {C : Ctx} {top : Nat} {a : Nat} {H : List (Nat × Nat × Rec)} {ob : Rec} {res : Int32} {NF : Nat} (k7 : Int32 → Int32 → Option (Int32)) (hk7 : ∀ (i1 : Int32) (i2 : Int32), k7 i1 i2 = some res → Runs C B17 0 0 7 [vr a, vi i1, vi i2] [] (top, (a, 18, ob) :: H) (Ans (some (.int res)) (top, (a, 18, ob) :: H))) (i1 : Int32) (i2 : Int32) (hf : X_pickProcessToSuspend_w7 NF ob k7 i1 i2 = some res) : Runs C B17 0 0 7 [vr a, vi i1, vi i2] [] (top, (a, 18, ob) :: H) (Ans (some (.int res)) (top, (a, 18, ob) :: H)) := by
  delta X_pickProcessToSuspend_w7 at hf
  refine Runs.iloadN d17_7 rfl <| ?_
  refine ite_el hf (fun hc1 hf => ?_) (fun hc1 hf => ?_)
  · refine Runs.ifY (pc' := 42) d17_8 (tlt hc1).1 (by decide) <| ?_
    obtain rfl := Option.some.inj hf
    exact Runs.iconst d17_42 ci_m1 <| Runs.retI d17_43 rfl ⟨by decide, by decide⟩ ⟨rfl, rfl⟩
  · refine Runs.ifN d17_8 (flt hc1).1 <| ?_
    refine Runs.iloadN d17_11 rfl <| Runs.iloadN d17_12 rfl <| ?_
    refine ite_el hf (fun hc2 hf => ?_) (fun hc2 hf => ?_)
    · refine Runs.icY (pc' := 36) d17_13 (teq hc2).1 (by decide) <| ?_
      exact Runs.iinc (P' := [vr a, vi i1, vi (i2 + (-1 : Int32))]) d17_36 ci_m1 rfl (by decide) rfl <| Runs.goto (pc' := 7) d17_39 (by decide) <| hk7 i1 (i2 + (-1 : Int32)) hf
    · refine Runs.icN d17_13 (feq hc2).1 <| ?_
      refine Runs.aloadN d17_16 rfl <| Runs.getA d17_17 fA_0 w10 (by decide) <| Runs.iloadN d17_20 rfl <| ?_
      refine chk_el hf fun hi3 hf => ?_
      refine Runs.baloadA d17_21 fA_0 (by decide) hi3 <| ?_
      refine ite_el hf (fun hc4 hf => ?_) (fun hc4 hf => ?_)
      · refine Runs.ifN d17_22 (teq hc4).2 <| ?_
        refine Runs.aloadN d17_25 rfl <| Runs.getA d17_26 fA_4 w19 (by decide) <| Runs.iloadN d17_29 rfl <| ?_
        refine chk_el hf fun hi5 hf => ?_
        refine Runs.ialoadA d17_30 fA_4 (by decide) hi5 <| ?_
        refine ite_el hf (fun hc6 hf => ?_) (fun hc6 hf => ?_)
        · refine Runs.ifN d17_31 (tlt hc6).2.2.2 <| ?_
          obtain rfl := Option.some.inj hf
          exact Runs.iloadN d17_34 rfl <| Runs.retI d17_35 rfl ⟨by decide, by decide⟩ ⟨rfl, rfl⟩
        · refine Runs.ifY (pc' := 36) d17_31 (flt hc6).2.2.2 (by decide) <| ?_
          exact Runs.iinc (P' := [vr a, vi i1, vi (i2 + (-1 : Int32))]) d17_36 ci_m1 rfl (by decide) rfl <| Runs.goto (pc' := 7) d17_39 (by decide) <| hk7 i1 (i2 + (-1 : Int32)) hf
      · refine Runs.ifY (pc' := 36) d17_22 (feq hc4).2 (by decide) <| ?_
        exact Runs.iinc (P' := [vr a, vi i1, vi (i2 + (-1 : Int32))]) d17_36 ci_m1 rfl (by decide) rfl <| Runs.goto (pc' := 7) d17_39 (by decide) <| hk7 i1 (i2 + (-1 : Int32)) hf
theorem X_pickProcessToSuspend_l7_p {C : Ctx} {top : Nat} {a : Nat} {H : List (Nat × Nat × Rec)} {ob : Rec} {res : Int32} {NF : Nat} (n : Nat) (i1 : Int32) (i2 : Int32) (hf : X_pickProcessToSuspend_l7 NF ob n i1 i2 = some res) : Runs C B17 0 0 7 [vr a, vi i1, vi i2] [] (top, (a, 18, ob) :: H) (Ans (some (.int res)) (top, (a, 18, ob) :: H)) := by
  induction n generalizing i1 i2 with
  | zero => cases (show (none : Option (Int32)) = some res from hf)
  | succ n ih => exact X_pickProcessToSuspend_w7_p (X_pickProcessToSuspend_l7 NF ob n) (fun i1 i2 h => ih _ _ h) i1 i2 hf
def X_pickProcessToSuspend (NF : Nat) (ob : Rec) (i1 : Int32) : Option (Int32) :=
  X_pickProcessToSuspend_l7 NF ob NF i1 ((gI ob 0) - (1 : Int32))
set_option maxRecDepth 65536 in
set_option maxHeartbeats 4000000 in
theorem X_pickProcessToSuspend_p {C : Ctx} {top : Nat} {a : Nat} {H : List (Nat × Nat × Rec)} {ob : Rec} {res : Int32} {NF : Nat} (i1 : Int32) (hf : X_pickProcessToSuspend NF ob i1 = some res) : Runs C B17 0 0 0 [vr a, vi i1, vn] [] (top, (a, 18, ob) :: H) (Ans (some (.int res)) (top, (a, 18, ob) :: H)) := by
  delta X_pickProcessToSuspend at hf
  exact Runs.aloadN d17_0 rfl <| Runs.getI d17_1 w51 fS_0 <| Runs.iconst d17_4 ci_1 <| Runs.isub d17_5 <| Runs.istoreN (P' := [vr a, vi i1, vi ((gI ob 0) - (1 : Int32))]) d17_6 (by decide) rfl <| X_pickProcessToSuspend_l7_p NF i1 ((gI ob 0) - (1 : Int32)) hf
theorem X_pickProcessToSuspend_pay {C : Ctx} {top : Nat} {a : Nat} {H : List (Nat × Nat × Rec)} {ob : Rec} {res : Int32} {NF : Nat} {i1 : Int32} (hf : X_pickProcessToSuspend NF ob i1 = some res) : Pays C B17 [.ref a, .int i1] (top, (a, 18, ob) :: H) (Ans (some (.int res)) (top, (a, 18, ob) :: H)) :=
  Pays.of pnK (Nat.le_of_ble_eq_true rfl) (P := [vr a, vi i1, vn]) 1 rfl (X_pickProcessToSuspend_p i1 hf)
def X_loadControl_w67 (NF : Nat) (k67 : Rec → Int32 → Option (Rec)) (ob : Rec) (i2 : Int32) : Option (Rec) :=
  if i2 < (gI ob 0) then
    chk (4 : Int32) i2 <|
    if (gA ob 0 i2) = (0 : Int32) then
      k67 ob (i2 + (1 : Int32))
    else
      (X_activeTotal NF ob).bind fun r12 =>
      chk (4 : Int32) i2 <|
      if (gI ob 2) < (r12 + (gA ob 4 i2)) then
        k67 ob (i2 + (1 : Int32))
      else
        chk (4 : Int32) i2 <|
        k67 (sI (sA ob 0 i2 (0 : Int32)) 6 ((gI ob 6) + (1 : Int32))) (i2 + (1 : Int32))
  else
    some ob
def X_loadControl_l67 (NF : Nat) : Nat → Rec → Int32 → Option (Rec)
  | 0, _, _ => none
  | n + 1, ob, i2 => X_loadControl_w67 NF (X_loadControl_l67 NF n) ob i2
set_option maxRecDepth 65536 in
set_option maxHeartbeats 4000000 in
theorem X_loadControl_w67_p {C : Ctx} {top : Nat} {a : Nat} {H : List (Nat × Nat × Rec)} {res : Rec} {NF : Nat} (k67 : Rec → Int32 → Option (Rec)) (hk67 : ∀ (ob : Rec) (i2 : Int32), k67 ob i2 = some res → Runs C B11 0 0 67 [vr a, vn, vi i2, vn, vn] [] (top, (a, 18, ob) :: H) (Ans none (top, (a, 18, res) :: H))) (ob : Rec) (i2 : Int32) (hf : X_loadControl_w67 NF k67 ob i2 = some res) : Runs C B11 0 0 67 [vr a, vn, vi i2, vn, vn] [] (top, (a, 18, ob) :: H) (Ans none (top, (a, 18, res) :: H)) := by
  delta X_loadControl_w67 at hf
  refine Runs.iloadN d11_67 rfl <| Runs.aloadN d11_68 rfl <| Runs.getI d11_69 w51 fS_0 <| ?_
  refine ite_el hf (fun hc9 hf => ?_) (fun hc9 hf => ?_)
  · refine Runs.icN d11_72 (tlt hc9).2.1 <| ?_
    refine Runs.aloadN d11_75 rfl <| Runs.getA d11_76 fA_0 w10 (by decide) <| Runs.iloadN d11_79 rfl <| ?_
    refine chk_el hf fun hi10 hf => ?_
    refine Runs.baloadA d11_80 fA_0 (by decide) hi10 <| ?_
    refine ite_el hf (fun hc11 hf => ?_) (fun hc11 hf => ?_)
    · refine Runs.ifY (pc' := 121) d11_81 (teq hc11).1 (by decide) <| ?_
      exact Runs.iinc (P' := [vr a, vn, vi (i2 + (1 : Int32)), vn, vn]) d11_121 ci_1 rfl (by decide) rfl <| Runs.goto (pc' := 67) d11_124 (by decide) <| hk67 ob (i2 + (1 : Int32)) hf
    · refine Runs.ifN d11_81 (feq hc11).1 <| ?_
      refine Runs.aloadN d11_84 rfl <| ?_
      refine bind_el hf fun r12 hg13 hf => ?_
      refine Runs.callV (N := B12) (W := 0) (as := []) (S' := []) d11_85 w104 w105 w106 w107 cw12 ar12 rk11_12_0 (by decide) rfl rfl (X_activeTotal_pay hg13) <| ans1 <| Runs.istoreN (P' := [vr a, vn, vi i2, vi r12, vn]) d11_88 (by decide) rfl <| Runs.iloadN d11_89 rfl <| Runs.aloadN d11_90 rfl <| Runs.getA d11_91 fA_4 w19 (by decide) <| Runs.iloadN d11_94 rfl <| ?_
      refine chk_el hf fun hi14 hf => ?_
      refine Runs.ialoadA d11_95 fA_4 (by decide) hi14 <| Runs.iadd d11_96 <| Runs.aloadN d11_97 rfl <| Runs.getI d11_98 w55 fS_2 <| ?_
      refine ite_el hf (fun hc15 hf => ?_) (fun hc15 hf => ?_)
      · refine Runs.icY (pc' := 121) d11_101 (tlt hc15).2.2.1 (by decide) <| ?_
        exact Runs.iinc (P' := [vr a, vn, vi (i2 + (1 : Int32)), vi r12, vn]) d11_121 ci_1 rfl (by decide) rfl <| Runs.goto (pc' := 67) d11_124 (by decide) <| Runs.forget [true, false, true, false, false] rfl <| hk67 ob (i2 + (1 : Int32)) hf
      · refine Runs.icN d11_101 (flt hc15).2.2.1 <| ?_
        refine Runs.aloadN d11_104 rfl <| Runs.getA d11_105 fA_0 w10 (by decide) <| Runs.iloadN d11_108 rfl <| Runs.iconst d11_109 ci_0 <| ?_
        refine chk_el hf fun hi16 hf => ?_
        exact Runs.bastoreA (y := (0 : Int32)) d11_110 fA_0 (by decide) hi16 rfl <| Runs.aloadN d11_111 rfl <| Runs.dup d11_112 rfl <| Runs.getI d11_113 w63 fS_6 <| Runs.iconst d11_116 ci_1 <| Runs.iadd d11_117 <| Runs.putI d11_118 w63 fS_6 (Or.inl w64) <| Runs.iinc (P' := [vr a, vn, vi (i2 + (1 : Int32)), vi r12, vn]) d11_121 ci_1 rfl (by decide) rfl <| Runs.goto (pc' := 67) d11_124 (by decide) <| Runs.forget [true, false, true, false, false] rfl <| hk67 (sI (sA ob 0 i2 (0 : Int32)) 6 ((gI ob 6) + (1 : Int32))) (i2 + (1 : Int32)) hf
  · refine Runs.icY (pc' := 127) d11_72 (flt hc9).2.1 (by decide) <| ?_
    obtain rfl := Option.some.inj hf
    exact Runs.retV d11_127 rfl ⟨by decide, by decide⟩ ⟨rfl, rfl⟩
theorem X_loadControl_l67_p {C : Ctx} {top : Nat} {a : Nat} {H : List (Nat × Nat × Rec)} {res : Rec} {NF : Nat} (n : Nat) (ob : Rec) (i2 : Int32) (hf : X_loadControl_l67 NF n ob i2 = some res) : Runs C B11 0 0 67 [vr a, vn, vi i2, vn, vn] [] (top, (a, 18, ob) :: H) (Ans none (top, (a, 18, res) :: H)) := by
  induction n generalizing ob i2 with
  | zero => cases (show (none : Option (Rec)) = some res from hf)
  | succ n ih => exact X_loadControl_w67_p (X_loadControl_l67 NF n) (fun ob i2 h => ih _ _ h) ob i2 hf
def X_loadControl_w2 (NF : Nat) (k2 : Rec → Int32 → Int32 → Option (Rec)) (ob : Rec) (i1 : Int32) (i2 : Int32) : Option (Rec) :=
  if i2 < (gI ob 0) then
    (X_activeTotal NF ob).bind fun r2 =>
    if (gI ob 2) < r2 then
      (X_pickProcessToSuspend NF ob i1).bind fun r5 =>
      if r5 < (0 : Int32) then
        X_loadControl_l67 NF NF ob (0 : Int32)
      else
        chk (4 : Int32) r5 <|
        k2 (sI (sA ob 0 r5 (1 : Int32)) 5 ((gI ob 5) + (1 : Int32))) i1 (i2 + (1 : Int32))
    else
      X_loadControl_l67 NF NF ob (0 : Int32)
  else
    X_loadControl_l67 NF NF ob (0 : Int32)
def X_loadControl_l2 (NF : Nat) : Nat → Rec → Int32 → Int32 → Option (Rec)
  | 0, _, _, _ => none
  | n + 1, ob, i1, i2 => X_loadControl_w2 NF (X_loadControl_l2 NF n) ob i1 i2
set_option maxRecDepth 65536 in
set_option maxHeartbeats 4000000 in
theorem X_loadControl_w2_p {C : Ctx} {top : Nat} {a : Nat} {H : List (Nat × Nat × Rec)} {res : Rec} {NF : Nat} (k2 : Rec → Int32 → Int32 → Option (Rec)) (hk2 : ∀ (ob : Rec) (i1 : Int32) (i2 : Int32), k2 ob i1 i2 = some res → Runs C B11 0 0 2 [vr a, vi i1, vi i2, vn, vn] [] (top, (a, 18, ob) :: H) (Ans none (top, (a, 18, res) :: H))) (ob : Rec) (i1 : Int32) (i2 : Int32) (hf : X_loadControl_w2 NF k2 ob i1 i2 = some res) : Runs C B11 0 0 2 [vr a, vi i1, vi i2, vn, vn] [] (top, (a, 18, ob) :: H) (Ans none (top, (a, 18, res) :: H)) := by
  delta X_loadControl_w2 at hf
  refine Runs.iloadN d11_2 rfl <| Runs.aloadN d11_3 rfl <| Runs.getI d11_4 w51 fS_0 <| ?_
  refine ite_el hf (fun hc1 hf => ?_) (fun hc1 hf => ?_)
  · refine Runs.icN d11_7 (tlt hc1).2.1 <| ?_
    refine Runs.aloadN d11_10 rfl <| ?_
    refine bind_el hf fun r2 hg3 hf => ?_
    refine Runs.callV (N := B12) (W := 0) (as := []) (S' := []) d11_11 w104 w105 w106 w107 cw12 ar12 rk11_12_0 (by decide) rfl rfl (X_activeTotal_pay hg3) <| ans1 <| Runs.istoreN (P' := [vr a, vi i1, vi i2, vi r2, vn]) d11_14 (by decide) rfl <| Runs.iloadN d11_15 rfl <| Runs.aloadN d11_16 rfl <| Runs.getI d11_17 w55 fS_2 <| ?_
    refine ite_el hf (fun hc4 hf => ?_) (fun hc4 hf => ?_)
    · refine Runs.icY (pc' := 26) d11_20 (tlt hc4).2.2.1 (by decide) <| ?_
      refine Runs.aloadN d11_26 rfl <| Runs.iloadN d11_27 rfl <| ?_
      refine bind_el hf fun r5 hg6 hf => ?_
      refine Runs.callP (N := B17) (W := 0) (as := [.int i1]) (S' := []) d11_28 w125 w126 w127 rfl cw17 ar17 rk11_17_0 (by decide) rfl rfl (X_pickProcessToSuspend_pay hg6) <| ans1 <| Runs.istore (P' := [vr a, vi i1, vi i2, vi r2, vi r5]) d11_31 (by decide) rfl <| Runs.iload d11_33 rfl <| ?_
      refine ite_el hf (fun hc7 hf => ?_) (fun hc7 hf => ?_)
      · refine Runs.ifN d11_35 (tlt hc7).2.1 <| ?_
        exact Runs.goto (pc' := 65) d11_38 (by decide) <| Runs.iconst d11_65 ci_0 <| Runs.istoreN (P' := [vr a, vi i1, vi (0 : Int32), vi r2, vi r5]) d11_66 (by decide) rfl <| Runs.forget [true, false, true, false, false] rfl <| X_loadControl_l67_p NF ob (0 : Int32) hf
      · refine Runs.ifY (pc' := 41) d11_35 (flt hc7).2.1 (by decide) <| ?_
        refine Runs.aloadN d11_41 rfl <| Runs.getA d11_42 fA_0 w10 (by decide) <| Runs.iload d11_45 rfl <| Runs.iconst d11_47 ci_1 <| ?_
        refine chk_el hf fun hi8 hf => ?_
        exact Runs.bastoreA (y := (1 : Int32)) d11_48 fA_0 (by decide) hi8 rfl <| Runs.aloadN d11_49 rfl <| Runs.dup d11_50 rfl <| Runs.getI d11_51 w61 fS_5 <| Runs.iconst d11_54 ci_1 <| Runs.iadd d11_55 <| Runs.putI d11_56 w61 fS_5 (Or.inl w62) <| Runs.iinc (P' := [vr a, vi i1, vi (i2 + (1 : Int32)), vi r2, vi r5]) d11_59 ci_1 rfl (by decide) rfl <| Runs.goto (pc' := 2) d11_62 (by decide) <| Runs.forget [true, true, true, false, false] rfl <| hk2 (sI (sA ob 0 r5 (1 : Int32)) 5 ((gI ob 5) + (1 : Int32))) i1 (i2 + (1 : Int32)) hf
    · refine Runs.icN d11_20 (flt hc4).2.2.1 <| ?_
      exact Runs.goto (pc' := 65) d11_23 (by decide) <| Runs.iconst d11_65 ci_0 <| Runs.istoreN (P' := [vr a, vi i1, vi (0 : Int32), vi r2, vn]) d11_66 (by decide) rfl <| Runs.forget [true, false, true, false, false] rfl <| X_loadControl_l67_p NF ob (0 : Int32) hf
  · refine Runs.icY (pc' := 65) d11_7 (flt hc1).2.1 (by decide) <| ?_
    exact Runs.iconst d11_65 ci_0 <| Runs.istoreN (P' := [vr a, vi i1, vi (0 : Int32), vn, vn]) d11_66 (by decide) rfl <| Runs.forget [true, false, true, false, false] rfl <| X_loadControl_l67_p NF ob (0 : Int32) hf
theorem X_loadControl_l2_p {C : Ctx} {top : Nat} {a : Nat} {H : List (Nat × Nat × Rec)} {res : Rec} {NF : Nat} (n : Nat) (ob : Rec) (i1 : Int32) (i2 : Int32) (hf : X_loadControl_l2 NF n ob i1 i2 = some res) : Runs C B11 0 0 2 [vr a, vi i1, vi i2, vn, vn] [] (top, (a, 18, ob) :: H) (Ans none (top, (a, 18, res) :: H)) := by
  induction n generalizing ob i1 i2 with
  | zero => cases (show (none : Option (Rec)) = some res from hf)
  | succ n ih => exact X_loadControl_w2_p (X_loadControl_l2 NF n) (fun ob i1 i2 h => ih _ _ _ h) ob i1 i2 hf
def X_loadControl (NF : Nat) (ob : Rec) (i1 : Int32) : Option (Rec) :=
  X_loadControl_l2 NF NF ob i1 (0 : Int32)
set_option maxRecDepth 65536 in
set_option maxHeartbeats 4000000 in
theorem X_loadControl_p {C : Ctx} {top : Nat} {a : Nat} {H : List (Nat × Nat × Rec)} {res : Rec} {NF : Nat} (ob : Rec) (i1 : Int32) (hf : X_loadControl NF ob i1 = some res) : Runs C B11 0 0 0 [vr a, vi i1, vn, vn, vn] [] (top, (a, 18, ob) :: H) (Ans none (top, (a, 18, res) :: H)) := by
  delta X_loadControl at hf
  exact Runs.iconst d11_0 ci_0 <| Runs.istoreN (P' := [vr a, vi i1, vi (0 : Int32), vn, vn]) d11_1 (by decide) rfl <| X_loadControl_l2_p NF ob i1 (0 : Int32) hf
theorem X_loadControl_pay {C : Ctx} {top : Nat} {a : Nat} {H : List (Nat × Nat × Rec)} {res : Rec} {NF : Nat} {ob : Rec} {i1 : Int32} (hf : X_loadControl NF ob i1 = some res) : Pays C B11 [.ref a, .int i1] (top, (a, 18, ob) :: H) (Ans none (top, (a, 18, res) :: H)) :=
  Pays.of pnK (Nat.le_of_ble_eq_true rfl) (P := [vr a, vi i1, vn, vn, vn]) 3 rfl (X_loadControl_p ob i1 hf)
def X_store (NF : Nat) (ob : Rec) (i1 : Int32) (i2 : Int32) (i3 : Int32) : Option (Int32 × Rec) :=
  (X_check ob i1 i2).bind fun r1 =>
  if r1 = (0 : Int32) then
    bind2 (X_ensureResident NF ob i1 (i2 / (4 : Int32))) fun r4 q5 =>
    chk (128 : Int32) ((r4 * (4 : Int32)) + (i2 % (4 : Int32))) <|
    chk (32 : Int32) r4 <|
    (X_recordReference (sA (sA q5 15 ((r4 * (4 : Int32)) + (i2 % (4 : Int32))) i3) 14 r4 (1 : Int32)) i1 (i2 / (4 : Int32))).bind fun q9 =>
    (X_loadControl NF q9 i1).bind fun q11 =>
    some ((0 : Int32), (sI q11 4 (0 : Int32)))
  else
    some (r1, (sI ob 4 r1))
set_option maxRecDepth 65536 in
set_option maxHeartbeats 4000000 in
theorem X_store_p {C : Ctx} {top : Nat} {a : Nat} {H : List (Nat × Nat × Rec)} {res : Int32 × Rec} {NF : Nat} (ob : Rec) (i1 : Int32) (i2 : Int32) (i3 : Int32) (hf : X_store NF ob i1 i2 i3 = some res) : Runs C B3 0 0 0 [vr a, vi i1, vi i2, vi i3, vn, vn, vn] [] (top, (a, 18, ob) :: H) (Ans (some (.int res.1)) (top, (a, 18, res.2) :: H)) := by
  delta X_store at hf
  refine Runs.aloadN d3_0 rfl <| Runs.iloadN d3_1 rfl <| Runs.iloadN d3_2 rfl <| ?_
  refine bind_el hf fun r1 hg2 hf => ?_
  refine Runs.callP (N := B4) (W := 0) (as := [.int i1, .int i2]) (S' := []) d3_3 w72 w73 w74 rfl cw4 ar4 rk3_4_0 (by decide) rfl rfl (X_check_pay hg2) <| ans1 <| Runs.istore (P' := [vr a, vi i1, vi i2, vi i3, vi r1, vn, vn]) d3_6 (by decide) rfl <| Runs.iload d3_8 rfl <| ?_
  refine ite_el hf (fun hc3 hf => ?_) (fun hc3 hf => ?_)
  · refine Runs.ifY (pc' := 22) d3_10 (teq hc3).1 (by decide) <| ?_
    refine Runs.iloadN d3_22 rfl <| Runs.iconst d3_23 ci_4 <| Runs.idiv d3_24 (by decide) <| Runs.istore (P' := [vr a, vi i1, vi i2, vi i3, vi r1, vi (i2 / (4 : Int32)), vn]) d3_25 (by decide) rfl <| Runs.aloadN d3_27 rfl <| Runs.iloadN d3_28 rfl <| Runs.iload d3_29 rfl <| ?_
    refine bind2_el hf fun r4 q5 hg6 hf => ?_
    refine Runs.callP (N := B6) (W := 0) (as := [.int i1, .int (i2 / (4 : Int32))]) (S' := []) d3_31 w80 w81 w82 rfl cw6 ar6 rk3_6_0 (by decide) rfl rfl (X_ensureResident_pay hg6) <| ans1 <| Runs.istore (P' := [vr a, vi i1, vi i2, vi i3, vi r1, vi (i2 / (4 : Int32)), vi r4]) d3_34 (by decide) rfl <| Runs.aloadN d3_36 rfl <| Runs.getA d3_37 fA_15 w41 (by decide) <| Runs.iload d3_40 rfl <| Runs.iconst d3_42 ci_4 <| Runs.imul d3_43 <| Runs.iloadN d3_44 rfl <| Runs.iconst d3_45 ci_4 <| Runs.irem d3_46 (by decide) <| Runs.iadd d3_47 <| Runs.iloadN d3_48 rfl <| ?_
    refine chk_el hf fun hi7 hf => ?_
    refine Runs.iastoreA d3_49 fA_15 (by decide) hi7 <| Runs.aloadN d3_50 rfl <| Runs.getA d3_51 fA_14 w39 (by decide) <| Runs.iload d3_54 rfl <| Runs.iconst d3_56 ci_1 <| ?_
    refine chk_el hf fun hi8 hf => ?_
    refine Runs.bastoreA (y := (1 : Int32)) d3_57 fA_14 (by decide) hi8 rfl <| Runs.aloadN d3_58 rfl <| Runs.iloadN d3_59 rfl <| Runs.iload d3_60 rfl <| ?_
    refine bind_el hf fun q9 hg10 hf => ?_
    refine Runs.callP (N := B9) (W := 0) (as := [.int i1, .int (i2 / (4 : Int32))]) (S' := []) d3_62 w92 w93 w94 rfl cw9 ar9 rk3_9_0 (by decide) rfl rfl (X_recordReference_pay hg10) <| ans0 <| Runs.aloadN d3_65 rfl <| Runs.iloadN d3_66 rfl <| ?_
    refine bind_el hf fun q11 hg12 hf => ?_
    obtain rfl := Option.some.inj hf
    exact Runs.callP (N := B11) (W := 0) (as := [.int i1]) (S' := []) d3_67 w100 w101 w102 rfl cw11 ar11 rk3_11_0 (by decide) rfl rfl (X_loadControl_pay hg12) <| ans0 <| Runs.aloadN d3_70 rfl <| Runs.iconst d3_71 ci_0 <| Runs.putI d3_72 w59 fS_4 (Or.inl w60) <| Runs.iconst d3_75 ci_0 <| Runs.retI d3_76 rfl ⟨by decide, by decide⟩ ⟨rfl, rfl⟩
  · refine Runs.ifN d3_10 (feq hc3).1 <| ?_
    obtain rfl := Option.some.inj hf
    exact Runs.aloadN d3_13 rfl <| Runs.iload d3_14 rfl <| Runs.putI d3_16 w59 fS_4 (Or.inl w60) <| Runs.iload d3_19 rfl <| Runs.retI d3_21 rfl ⟨by decide, by decide⟩ ⟨rfl, rfl⟩
theorem X_store_pay {C : Ctx} {top : Nat} {a : Nat} {H : List (Nat × Nat × Rec)} {res : Int32 × Rec} {NF : Nat} {ob : Rec} {i1 : Int32} {i2 : Int32} {i3 : Int32} (hf : X_store NF ob i1 i2 i3 = some res) : Pays C B3 [.ref a, .int i1, .int i2, .int i3] (top, (a, 18, ob) :: H) (Ans (some (.int res.1)) (top, (a, 18, res.2) :: H)) :=
  Pays.of pnK (Nat.le_of_ble_eq_true rfl) (P := [vr a, vi i1, vi i2, vi i3, vn, vn, vn]) 3 rfl (X_store_p ob i1 i2 i3 hf)
def X_isSuspended (ob : Rec) (i1 : Int32) : Option (Int32) :=
  (X_validPid ob i1).bind fun r1 =>
  if r1 = (0 : Int32) then
    some (0 : Int32)
  else
    chk (4 : Int32) i1 <|
    some ((gA ob 0 i1) &&& 1)
set_option maxRecDepth 65536 in
set_option maxHeartbeats 4000000 in
theorem X_isSuspended_p {C : Ctx} {top : Nat} {a : Nat} {H : List (Nat × Nat × Rec)} {ob : Rec} {res : Int32} (i1 : Int32) (hf : X_isSuspended ob i1 = some res) : Runs C B18 0 0 0 [vr a, vi i1] [] (top, (a, 18, ob) :: H) (Ans (some (.int res)) (top, (a, 18, ob) :: H)) := by
  delta X_isSuspended at hf
  refine Runs.aloadN d18_0 rfl <| Runs.iloadN d18_1 rfl <| ?_
  refine bind_el hf fun r1 hg2 hf => ?_
  refine Runs.callP (N := B5) (W := 0) (as := [.int i1]) (S' := []) d18_2 w76 w77 w78 rfl cw5 ar5 rk18_5_0 (by decide) rfl rfl (X_validPid_pay hg2) <| ans1 <| ?_
  refine ite_el hf (fun hc3 hf => ?_) (fun hc3 hf => ?_)
  · refine Runs.ifN d18_5 (teq hc3).2 <| ?_
    obtain rfl := Option.some.inj hf
    exact Runs.iconst d18_8 ci_0 <| Runs.retZ (y := (0 : Int32)) d18_9 rfl ⟨by decide, by decide⟩ rfl ⟨rfl, rfl⟩
  · refine Runs.ifY (pc' := 10) d18_5 (feq hc3).2 (by decide) <| ?_
    refine Runs.aloadN d18_10 rfl <| Runs.getA d18_11 fA_0 w10 (by decide) <| Runs.iloadN d18_14 rfl <| ?_
    refine chk_el hf fun hi4 hf => ?_
    obtain rfl := Option.some.inj hf
    exact Runs.baloadA d18_15 fA_0 (by decide) hi4 <| Runs.retZ (y := ((gA ob 0 i1) &&& 1)) d18_16 rfl ⟨by decide, by decide⟩ rfl ⟨rfl, rfl⟩
theorem X_isSuspended_pay {C : Ctx} {top : Nat} {a : Nat} {H : List (Nat × Nat × Rec)} {ob : Rec} {res : Int32} {i1 : Int32} (hf : X_isSuspended ob i1 = some res) : Pays C B18 [.ref a, .int i1] (top, (a, 18, ob) :: H) (Ans (some (.int res)) (top, (a, 18, ob) :: H)) :=
  Pays.of pnK (Nat.le_of_ble_eq_true rfl) (P := [vr a, vi i1]) 0 rfl (X_isSuspended_p i1 hf)
def X_suspensions (ob : Rec) : Option (Int32) :=
  some (gI ob 5)
set_option maxRecDepth 65536 in
set_option maxHeartbeats 4000000 in
theorem X_suspensions_p {C : Ctx} {top : Nat} {a : Nat} {H : List (Nat × Nat × Rec)} {ob : Rec} {res : Int32} (hf : X_suspensions ob = some res) : Runs C B19 0 0 0 [vr a] [] (top, (a, 18, ob) :: H) (Ans (some (.int res)) (top, (a, 18, ob) :: H)) := by
  delta X_suspensions at hf
  obtain rfl := Option.some.inj hf
  exact Runs.aloadN d19_0 rfl <| Runs.getI d19_1 w61 fS_5 <| Runs.retI d19_4 rfl ⟨by decide, by decide⟩ ⟨rfl, rfl⟩
theorem X_suspensions_pay {C : Ctx} {top : Nat} {a : Nat} {H : List (Nat × Nat × Rec)} {ob : Rec} {res : Int32} (hf : X_suspensions ob = some res) : Pays C B19 [.ref a] (top, (a, 18, ob) :: H) (Ans (some (.int res)) (top, (a, 18, ob) :: H)) :=
  Pays.of pnK (Nat.le_of_ble_eq_true rfl) (P := [vr a]) 0 rfl (X_suspensions_p hf)
def X_load (NF : Nat) (ob : Rec) (i1 : Int32) (i2 : Int32) : Option (Int64 × Rec) :=
  (X_check ob i1 i2).bind fun r1 =>
  if r1 = (0 : Int32) then
    bind2 (X_ensureResident NF ob i1 (i2 / (4 : Int32))) fun r4 q5 =>
    chk (128 : Int32) ((r4 * (4 : Int32)) + (i2 % (4 : Int32))) <|
    (X_recordReference q5 i1 (i2 / (4 : Int32))).bind fun q8 =>
    (X_loadControl NF q8 i1).bind fun q10 =>
    some ((gA q5 15 ((r4 * (4 : Int32)) + (i2 % (4 : Int32)))).toInt64, (sI q10 4 (0 : Int32)))
  else
    some ((-9223372036854775808 : Int64), (sI ob 4 r1))
set_option maxRecDepth 65536 in
set_option maxHeartbeats 4000000 in
theorem X_load_p {C : Ctx} {top : Nat} {a : Nat} {H : List (Nat × Nat × Rec)} {res : Int64 × Rec} {NF : Nat} (ob : Rec) (i1 : Int32) (i2 : Int32) (hf : X_load NF ob i1 i2 = some res) : Runs C B20 0 0 0 [vr a, vi i1, vi i2, vn, vn, vn, vn] [] (top, (a, 18, ob) :: H) (Ans (some (.long res.1)) (top, (a, 18, res.2) :: H)) := by
  delta X_load at hf
  refine Runs.aloadN d20_0 rfl <| Runs.iloadN d20_1 rfl <| Runs.iloadN d20_2 rfl <| ?_
  refine bind_el hf fun r1 hg2 hf => ?_
  refine Runs.callP (N := B4) (W := 0) (as := [.int i1, .int i2]) (S' := []) d20_3 w72 w73 w74 rfl cw4 ar4 rk20_4_0 (by decide) rfl rfl (X_check_pay hg2) <| ans1 <| Runs.istoreN (P' := [vr a, vi i1, vi i2, vi r1, vn, vn, vn]) d20_6 (by decide) rfl <| Runs.iloadN d20_7 rfl <| ?_
  refine ite_el hf (fun hc3 hf => ?_) (fun hc3 hf => ?_)
  · refine Runs.ifY (pc' := 20) d20_8 (teq hc3).1 (by decide) <| ?_
    refine Runs.iloadN d20_20 rfl <| Runs.iconst d20_21 ci_4 <| Runs.idiv d20_22 (by decide) <| Runs.istore (P' := [vr a, vi i1, vi i2, vi r1, vi (i2 / (4 : Int32)), vn, vn]) d20_23 (by decide) rfl <| Runs.aloadN d20_25 rfl <| Runs.iloadN d20_26 rfl <| Runs.iload d20_27 rfl <| ?_
    refine bind2_el hf fun r4 q5 hg6 hf => ?_
    refine Runs.callP (N := B6) (W := 0) (as := [.int i1, .int (i2 / (4 : Int32))]) (S' := []) d20_29 w80 w81 w82 rfl cw6 ar6 rk20_6_0 (by decide) rfl rfl (X_ensureResident_pay hg6) <| ans1 <| Runs.istore (P' := [vr a, vi i1, vi i2, vi r1, vi (i2 / (4 : Int32)), vi r4, vn]) d20_32 (by decide) rfl <| Runs.aloadN d20_34 rfl <| Runs.getA d20_35 fA_15 w41 (by decide) <| Runs.iload d20_38 rfl <| Runs.iconst d20_40 ci_4 <| Runs.imul d20_41 <| Runs.iloadN d20_42 rfl <| Runs.iconst d20_43 ci_4 <| Runs.irem d20_44 (by decide) <| Runs.iadd d20_45 <| ?_
    refine chk_el hf fun hi7 hf => ?_
    refine Runs.ialoadA d20_46 fA_15 (by decide) hi7 <| Runs.istore (P' := [vr a, vi i1, vi i2, vi r1, vi (i2 / (4 : Int32)), vi r4, vi (gA q5 15 ((r4 * (4 : Int32)) + (i2 % (4 : Int32))))]) d20_47 (by decide) rfl <| Runs.aloadN d20_49 rfl <| Runs.iloadN d20_50 rfl <| Runs.iload d20_51 rfl <| ?_
    refine bind_el hf fun q8 hg9 hf => ?_
    refine Runs.callP (N := B9) (W := 0) (as := [.int i1, .int (i2 / (4 : Int32))]) (S' := []) d20_53 w92 w93 w94 rfl cw9 ar9 rk20_9_0 (by decide) rfl rfl (X_recordReference_pay hg9) <| ans0 <| Runs.aloadN d20_56 rfl <| Runs.iloadN d20_57 rfl <| ?_
    refine bind_el hf fun q10 hg11 hf => ?_
    obtain rfl := Option.some.inj hf
    exact Runs.callP (N := B11) (W := 0) (as := [.int i1]) (S' := []) d20_58 w100 w101 w102 rfl cw11 ar11 rk20_11_0 (by decide) rfl rfl (X_loadControl_pay hg11) <| ans0 <| Runs.aloadN d20_61 rfl <| Runs.iconst d20_62 ci_0 <| Runs.putI d20_63 w59 fS_4 (Or.inl w60) <| Runs.iload d20_66 rfl <| Runs.i2l d20_68 <| Runs.retJ d20_69 rfl ⟨by decide, by decide⟩ ⟨rfl, rfl⟩
  · refine Runs.ifN d20_8 (feq hc3).1 <| ?_
    obtain rfl := Option.some.inj hf
    exact Runs.aloadN d20_11 rfl <| Runs.iloadN d20_12 rfl <| Runs.putI d20_13 w59 fS_4 (Or.inl w60) <| Runs.ldc2 d20_16 w145 <| Runs.retJ d20_19 rfl ⟨by decide, by decide⟩ ⟨rfl, rfl⟩
theorem X_load_pay {C : Ctx} {top : Nat} {a : Nat} {H : List (Nat × Nat × Rec)} {res : Int64 × Rec} {NF : Nat} {ob : Rec} {i1 : Int32} {i2 : Int32} (hf : X_load NF ob i1 i2 = some res) : Pays C B20 [.ref a, .int i1, .int i2] (top, (a, 18, ob) :: H) (Ans (some (.long res.1)) (top, (a, 18, res.2) :: H)) :=
  Pays.of pnK (Nat.le_of_ble_eq_true rfl) (P := [vr a, vi i1, vi i2, vn, vn, vn, vn]) 4 rfl (X_load_p ob i1 i2 hf)
def X_lastStatus (ob : Rec) : Option (Int32) :=
  some (gI ob 4)
set_option maxRecDepth 65536 in
set_option maxHeartbeats 4000000 in
theorem X_lastStatus_p {C : Ctx} {top : Nat} {a : Nat} {H : List (Nat × Nat × Rec)} {ob : Rec} {res : Int32} (hf : X_lastStatus ob = some res) : Runs C B21 0 0 0 [vr a] [] (top, (a, 18, ob) :: H) (Ans (some (.int res)) (top, (a, 18, ob) :: H)) := by
  delta X_lastStatus at hf
  obtain rfl := Option.some.inj hf
  exact Runs.aloadN d21_0 rfl <| Runs.getI d21_1 w59 fS_4 <| Runs.retI d21_4 rfl ⟨by decide, by decide⟩ ⟨rfl, rfl⟩
theorem X_lastStatus_pay {C : Ctx} {top : Nat} {a : Nat} {H : List (Nat × Nat × Rec)} {ob : Rec} {res : Int32} (hf : X_lastStatus ob = some res) : Pays C B21 [.ref a] (top, (a, 18, ob) :: H) (Ans (some (.int res)) (top, (a, 18, ob) :: H)) :=
  Pays.of pnK (Nat.le_of_ble_eq_true rfl) (P := [vr a]) 0 rfl (X_lastStatus_p hf)
def X_discardPage_b64 (ob : Rec) (i1 : Int32) : Option (Rec) :=
  chk (64 : Int32) i1 <|
  chk (64 : Int32) i1 <|
  chk (64 : Int32) i1 <|
  some (sA (sA (sA ob 7 i1 (0 : Int32)) 8 i1 (0 : Int32)) 11 i1 (0 : Int32))
set_option maxRecDepth 65536 in
set_option maxHeartbeats 4000000 in
theorem X_discardPage_b64_p {C : Ctx} {top : Nat} {a : Nat} {H : List (Nat × Nat × Rec)} {res : Rec} (ob : Rec) (i1 : Int32) (hf : X_discardPage_b64 ob i1 = some res) : Runs C B23 0 0 64 [vr a, vi i1, vn, vn] [] (top, (a, 18, ob) :: H) (Ans none (top, (a, 18, res) :: H)) := by
  delta X_discardPage_b64 at hf
  refine Runs.aloadN d23_64 rfl <| Runs.getA d23_65 fA_7 w25 (by decide) <| Runs.iloadN d23_68 rfl <| Runs.iconst d23_69 ci_0 <| ?_
  refine chk_el hf fun hi5 hf => ?_
  refine Runs.iastoreA d23_70 fA_7 (by decide) hi5 <| Runs.aloadN d23_71 rfl <| Runs.getA d23_72 fA_8 w27 (by decide) <| Runs.iloadN d23_75 rfl <| Runs.iconst d23_76 ci_0 <| ?_
  refine chk_el hf fun hi6 hf => ?_
  refine Runs.bastoreA (y := (0 : Int32)) d23_77 fA_8 (by decide) hi6 rfl <| Runs.aloadN d23_78 rfl <| Runs.getA d23_79 fA_11 w33 (by decide) <| Runs.iloadN d23_82 rfl <| Runs.iconst d23_83 ci_0 <| ?_
  refine chk_el hf fun hi7 hf => ?_
  obtain rfl := Option.some.inj hf
  exact Runs.iastoreA d23_84 fA_11 (by decide) hi7 <| Runs.retV d23_85 rfl ⟨by decide, by decide⟩ ⟨rfl, rfl⟩
def X_discardPage_b39 (ob : Rec) (i1 : Int32) : Option (Rec) :=
  chk (64 : Int32) i1 <|
  if (gA ob 10 i1) < (0 : Int32) then
    X_discardPage_b64 ob i1
  else
    chk (64 : Int32) (gA ob 10 i1) <|
    chk (64 : Int32) i1 <|
    X_discardPage_b64 (sA (sA ob 16 (gA ob 10 i1) (0 : Int32)) 10 i1 (-1 : Int32)) i1
set_option maxRecDepth 65536 in
set_option maxHeartbeats 4000000 in
theorem X_discardPage_b39_p {C : Ctx} {top : Nat} {a : Nat} {H : List (Nat × Nat × Rec)} {res : Rec} (ob : Rec) (i1 : Int32) (hf : X_discardPage_b39 ob i1 = some res) : Runs C B23 0 0 39 [vr a, vi i1, vn, vn] [] (top, (a, 18, ob) :: H) (Ans none (top, (a, 18, res) :: H)) := by
  delta X_discardPage_b39 at hf
  refine Runs.aloadN d23_39 rfl <| Runs.getA d23_40 fA_10 w31 (by decide) <| Runs.iloadN d23_43 rfl <| ?_
  refine chk_el hf fun hi1 hf => ?_
  refine Runs.ialoadA d23_44 fA_10 (by decide) hi1 <| Runs.istoreN (P' := [vr a, vi i1, vn, vi (gA ob 10 i1)]) d23_45 (by decide) rfl <| Runs.iloadN d23_46 rfl <| ?_
  refine ite_el hf (fun hc2 hf => ?_) (fun hc2 hf => ?_)
  · exact Runs.ifY (pc' := 64) d23_47 (tlt hc2).1 (by decide) <| Runs.forget [true, true, false, false] rfl <| X_discardPage_b64_p ob i1 hf
  · refine Runs.ifN d23_47 (flt hc2).1 <| ?_
    refine Runs.aloadN d23_50 rfl <| Runs.getA d23_51 fA_16 w43 (by decide) <| Runs.iloadN d23_54 rfl <| Runs.iconst d23_55 ci_0 <| ?_
    refine chk_el hf fun hi3 hf => ?_
    refine Runs.bastoreA (y := (0 : Int32)) d23_56 fA_16 (by decide) hi3 rfl <| Runs.aloadN d23_57 rfl <| Runs.getA d23_58 fA_10 w31 (by decide) <| Runs.iloadN d23_61 rfl <| Runs.iconst d23_62 ci_m1 <| ?_
    refine chk_el hf fun hi4 hf => ?_
    exact Runs.iastoreA d23_63 fA_10 (by decide) hi4 <| Runs.forget [true, true, false, false] rfl <| X_discardPage_b64_p (sA (sA ob 16 (gA ob 10 i1) (0 : Int32)) 10 i1 (-1 : Int32)) i1 hf
def X_discardPage (ob : Rec) (i1 : Int32) : Option (Rec) :=
  chk (64 : Int32) i1 <|
  if (gA ob 9 i1) < (0 : Int32) then
    X_discardPage_b39 ob i1
  else
    chk (32 : Int32) (gA ob 9 i1) <|
    chk (32 : Int32) (gA ob 9 i1) <|
    chk (32 : Int32) (gA ob 9 i1) <|
    chk (64 : Int32) i1 <|
    X_discardPage_b39 (sA (sA (sA (sA ob 12 (gA ob 9 i1) (-1 : Int32)) 13 (gA ob 9 i1) (0 : Int32)) 14 (gA ob 9 i1) (0 : Int32)) 9 i1 (-1 : Int32)) i1
set_option maxRecDepth 65536 in
set_option maxHeartbeats 4000000 in
theorem X_discardPage_p {C : Ctx} {top : Nat} {a : Nat} {H : List (Nat × Nat × Rec)} {res : Rec} (ob : Rec) (i1 : Int32) (hf : X_discardPage ob i1 = some res) : Runs C B23 0 0 0 [vr a, vi i1, vn, vn] [] (top, (a, 18, ob) :: H) (Ans none (top, (a, 18, res) :: H)) := by
  delta X_discardPage at hf
  refine Runs.aloadN d23_0 rfl <| Runs.getA d23_1 fA_9 w29 (by decide) <| Runs.iloadN d23_4 rfl <| ?_
  refine chk_el hf fun hi8 hf => ?_
  refine Runs.ialoadA d23_5 fA_9 (by decide) hi8 <| Runs.istoreN (P' := [vr a, vi i1, vi (gA ob 9 i1), vn]) d23_6 (by decide) rfl <| Runs.iloadN d23_7 rfl <| ?_
  refine ite_el hf (fun hc9 hf => ?_) (fun hc9 hf => ?_)
  · exact Runs.ifY (pc' := 39) d23_8 (tlt hc9).1 (by decide) <| Runs.forget [true, true, false, false] rfl <| X_discardPage_b39_p ob i1 hf
  · refine Runs.ifN d23_8 (flt hc9).1 <| ?_
    refine Runs.aloadN d23_11 rfl <| Runs.getA d23_12 fA_12 w35 (by decide) <| Runs.iloadN d23_15 rfl <| Runs.iconst d23_16 ci_m1 <| ?_
    refine chk_el hf fun hi10 hf => ?_
    refine Runs.iastoreA d23_17 fA_12 (by decide) hi10 <| Runs.aloadN d23_18 rfl <| Runs.getA d23_19 fA_13 w37 (by decide) <| Runs.iloadN d23_22 rfl <| Runs.iconst d23_23 ci_0 <| ?_
    refine chk_el hf fun hi11 hf => ?_
    refine Runs.bastoreA (y := (0 : Int32)) d23_24 fA_13 (by decide) hi11 rfl <| Runs.aloadN d23_25 rfl <| Runs.getA d23_26 fA_14 w39 (by decide) <| Runs.iloadN d23_29 rfl <| Runs.iconst d23_30 ci_0 <| ?_
    refine chk_el hf fun hi12 hf => ?_
    refine Runs.bastoreA (y := (0 : Int32)) d23_31 fA_14 (by decide) hi12 rfl <| Runs.aloadN d23_32 rfl <| Runs.getA d23_33 fA_9 w29 (by decide) <| Runs.iloadN d23_36 rfl <| Runs.iconst d23_37 ci_m1 <| ?_
    refine chk_el hf fun hi13 hf => ?_
    exact Runs.iastoreA d23_38 fA_9 (by decide) hi13 <| Runs.forget [true, true, false, false] rfl <| X_discardPage_b39_p (sA (sA (sA (sA ob 12 (gA ob 9 i1) (-1 : Int32)) 13 (gA ob 9 i1) (0 : Int32)) 14 (gA ob 9 i1) (0 : Int32)) 9 i1 (-1 : Int32)) i1 hf
theorem X_discardPage_pay {C : Ctx} {top : Nat} {a : Nat} {H : List (Nat × Nat × Rec)} {res : Rec} {ob : Rec} {i1 : Int32} (hf : X_discardPage ob i1 = some res) : Pays C B23 [.ref a, .int i1] (top, (a, 18, ob) :: H) (Ans none (top, (a, 18, res) :: H)) :=
  Pays.of pnK (Nat.le_of_ble_eq_true rfl) (P := [vr a, vi i1, vn, vn]) 2 rfl (X_discardPage_p ob i1 hf)
def X_release_w17 (NF : Nat) (k17 : Rec → Int32 → Int32 → Option (Int32 × Rec)) (ob : Rec) (i1 : Int32) (i2 : Int32) : Option (Int32 × Rec) :=
  if i2 < (gI ob 1) then
    (X_discardPage ob ((i1 * (16 : Int32)) + i2)).bind fun q2 =>
    k17 q2 i1 (i2 + (1 : Int32))
  else
    chk (4 : Int32) i1 <|
    chk (4 : Int32) i1 <|
    chk (4 : Int32) i1 <|
    chk (4 : Int32) i1 <|
    chk (4 : Int32) i1 <|
    chk (4 : Int32) i1 <|
    (X_loadControl NF (sA (sA (sA (sA (sA (sA ob 1 i1 (0 : Int32)) 2 i1 (0 : Int32)) 3 i1 (0 : Int32)) 4 i1 (0 : Int32)) 5 i1 (0 : Int32)) 0 i1 (0 : Int32)) i1).bind fun q10 =>
    some ((0 : Int32), (sI q10 4 (0 : Int32)))
def X_release_l17 (NF : Nat) : Nat → Rec → Int32 → Int32 → Option (Int32 × Rec)
  | 0, _, _, _ => none
  | n + 1, ob, i1, i2 => X_release_w17 NF (X_release_l17 NF n) ob i1 i2
set_option maxRecDepth 65536 in
set_option maxHeartbeats 4000000 in
theorem X_release_w17_p {C : Ctx} {top : Nat} {a : Nat} {H : List (Nat × Nat × Rec)} {res : Int32 × Rec} {NF : Nat} (k17 : Rec → Int32 → Int32 → Option (Int32 × Rec)) (hk17 : ∀ (ob : Rec) (i1 : Int32) (i2 : Int32), k17 ob i1 i2 = some res → Runs C B22 0 0 17 [vr a, vi i1, vi i2] [] (top, (a, 18, ob) :: H) (Ans (some (.int res.1)) (top, (a, 18, res.2) :: H))) (ob : Rec) (i1 : Int32) (i2 : Int32) (hf : X_release_w17 NF k17 ob i1 i2 = some res) : Runs C B22 0 0 17 [vr a, vi i1, vi i2] [] (top, (a, 18, ob) :: H) (Ans (some (.int res.1)) (top, (a, 18, res.2) :: H)) := by
  delta X_release_w17 at hf
  refine Runs.iloadN d22_17 rfl <| Runs.aloadN d22_18 rfl <| Runs.getI d22_19 w53 fS_1 <| ?_
  refine ite_el hf (fun hc1 hf => ?_) (fun hc1 hf => ?_)
  · refine Runs.icN d22_22 (tlt hc1).2.1 <| ?_
    refine Runs.aloadN d22_25 rfl <| Runs.iloadN d22_26 rfl <| Runs.bipush d22_27 cb_16 <| Runs.imul d22_29 <| Runs.iloadN d22_30 rfl <| Runs.iadd d22_31 <| ?_
    refine bind_el hf fun q2 hg3 hf => ?_
    exact Runs.callP (N := B23) (W := 0) (as := [.int ((i1 * (16 : Int32)) + i2)]) (S' := []) d22_32 w157 w158 w159 rfl cw23 ar23 rk22_23_0 (by decide) rfl rfl (X_discardPage_pay hg3) <| ans0 <| Runs.iinc (P' := [vr a, vi i1, vi (i2 + (1 : Int32))]) d22_35 ci_1 rfl (by decide) rfl <| Runs.goto (pc' := 17) d22_38 (by decide) <| hk17 q2 i1 (i2 + (1 : Int32)) hf
  · refine Runs.icY (pc' := 41) d22_22 (flt hc1).2.1 (by decide) <| ?_
    refine Runs.aloadN d22_41 rfl <| Runs.getA d22_42 fA_1 w13 (by decide) <| Runs.iloadN d22_45 rfl <| Runs.iconst d22_46 ci_0 <| ?_
    refine chk_el hf fun hi4 hf => ?_
    refine Runs.iastoreA d22_47 fA_1 (by decide) hi4 <| Runs.aloadN d22_48 rfl <| Runs.getA d22_49 fA_2 w15 (by decide) <| Runs.iloadN d22_52 rfl <| Runs.iconst d22_53 ci_0 <| ?_
    refine chk_el hf fun hi5 hf => ?_
    refine Runs.iastoreA d22_54 fA_2 (by decide) hi5 <| Runs.aloadN d22_55 rfl <| Runs.getA d22_56 fA_3 w17 (by decide) <| Runs.iloadN d22_59 rfl <| Runs.iconst d22_60 ci_0 <| ?_
    refine chk_el hf fun hi6 hf => ?_
    refine Runs.iastoreA d22_61 fA_3 (by decide) hi6 <| Runs.aloadN d22_62 rfl <| Runs.getA d22_63 fA_4 w19 (by decide) <| Runs.iloadN d22_66 rfl <| Runs.iconst d22_67 ci_0 <| ?_
    refine chk_el hf fun hi7 hf => ?_
    refine Runs.iastoreA d22_68 fA_4 (by decide) hi7 <| Runs.aloadN d22_69 rfl <| Runs.getA d22_70 fA_5 w21 (by decide) <| Runs.iloadN d22_73 rfl <| Runs.iconst d22_74 ci_0 <| ?_
    refine chk_el hf fun hi8 hf => ?_
    refine Runs.iastoreA d22_75 fA_5 (by decide) hi8 <| Runs.aloadN d22_76 rfl <| Runs.getA d22_77 fA_0 w10 (by decide) <| Runs.iloadN d22_80 rfl <| Runs.iconst d22_81 ci_0 <| ?_
    refine chk_el hf fun hi9 hf => ?_
    refine Runs.bastoreA (y := (0 : Int32)) d22_82 fA_0 (by decide) hi9 rfl <| Runs.aloadN d22_83 rfl <| Runs.iloadN d22_84 rfl <| ?_
    refine bind_el hf fun q10 hg11 hf => ?_
    obtain rfl := Option.some.inj hf
    exact Runs.callP (N := B11) (W := 0) (as := [.int i1]) (S' := []) d22_85 w100 w101 w102 rfl cw11 ar11 rk22_11_0 (by decide) rfl rfl (X_loadControl_pay hg11) <| ans0 <| Runs.aloadN d22_88 rfl <| Runs.iconst d22_89 ci_0 <| Runs.putI d22_90 w59 fS_4 (Or.inl w60) <| Runs.iconst d22_93 ci_0 <| Runs.retI d22_94 rfl ⟨by decide, by decide⟩ ⟨rfl, rfl⟩
theorem X_release_l17_p {C : Ctx} {top : Nat} {a : Nat} {H : List (Nat × Nat × Rec)} {res : Int32 × Rec} {NF : Nat} (n : Nat) (ob : Rec) (i1 : Int32) (i2 : Int32) (hf : X_release_l17 NF n ob i1 i2 = some res) : Runs C B22 0 0 17 [vr a, vi i1, vi i2] [] (top, (a, 18, ob) :: H) (Ans (some (.int res.1)) (top, (a, 18, res.2) :: H)) := by
  induction n generalizing ob i1 i2 with
  | zero => cases (show (none : Option (Int32 × Rec)) = some res from hf)
  | succ n ih => exact X_release_w17_p (X_release_l17 NF n) (fun ob i1 i2 h => ih _ _ _ h) ob i1 i2 hf
def X_release (NF : Nat) (ob : Rec) (i1 : Int32) : Option (Int32 × Rec) :=
  (X_validPid ob i1).bind fun r12 =>
  if r12 = (0 : Int32) then
    some ((1 : Int32), (sI ob 4 (1 : Int32)))
  else
    X_release_l17 NF NF ob i1 (0 : Int32)
set_option maxRecDepth 65536 in
set_option maxHeartbeats 4000000 in
theorem X_release_p {C : Ctx} {top : Nat} {a : Nat} {H : List (Nat × Nat × Rec)} {res : Int32 × Rec} {NF : Nat} (ob : Rec) (i1 : Int32) (hf : X_release NF ob i1 = some res) : Runs C B22 0 0 0 [vr a, vi i1, vn] [] (top, (a, 18, ob) :: H) (Ans (some (.int res.1)) (top, (a, 18, res.2) :: H)) := by
  delta X_release at hf
  refine Runs.aloadN d22_0 rfl <| Runs.iloadN d22_1 rfl <| ?_
  refine bind_el hf fun r12 hg13 hf => ?_
  refine Runs.callP (N := B5) (W := 0) (as := [.int i1]) (S' := []) d22_2 w76 w77 w78 rfl cw5 ar5 rk22_5_0 (by decide) rfl rfl (X_validPid_pay hg13) <| ans1 <| ?_
  refine ite_el hf (fun hc14 hf => ?_) (fun hc14 hf => ?_)
  · refine Runs.ifN d22_5 (teq hc14).2 <| ?_
    obtain rfl := Option.some.inj hf
    exact Runs.aloadN d22_8 rfl <| Runs.iconst d22_9 ci_1 <| Runs.putI d22_10 w59 fS_4 (Or.inl w60) <| Runs.iconst d22_13 ci_1 <| Runs.retI d22_14 rfl ⟨by decide, by decide⟩ ⟨rfl, rfl⟩
  · refine Runs.ifY (pc' := 15) d22_5 (feq hc14).2 (by decide) <| ?_
    exact Runs.iconst d22_15 ci_0 <| Runs.istoreN (P' := [vr a, vi i1, vi (0 : Int32)]) d22_16 (by decide) rfl <| X_release_l17_p NF ob i1 (0 : Int32) hf
theorem X_release_pay {C : Ctx} {top : Nat} {a : Nat} {H : List (Nat × Nat × Rec)} {res : Int32 × Rec} {NF : Nat} {ob : Rec} {i1 : Int32} (hf : X_release NF ob i1 = some res) : Pays C B22 [.ref a, .int i1] (top, (a, 18, ob) :: H) (Ans (some (.int res.1)) (top, (a, 18, res.2) :: H)) :=
  Pays.of pnK (Nat.le_of_ble_eq_true rfl) (P := [vr a, vi i1, vn]) 1 rfl (X_release_p ob i1 hf)
def X_readmissions (ob : Rec) : Option (Int32) :=
  some (gI ob 6)
set_option maxRecDepth 65536 in
set_option maxHeartbeats 4000000 in
theorem X_readmissions_p {C : Ctx} {top : Nat} {a : Nat} {H : List (Nat × Nat × Rec)} {ob : Rec} {res : Int32} (hf : X_readmissions ob = some res) : Runs C B24 0 0 0 [vr a] [] (top, (a, 18, ob) :: H) (Ans (some (.int res)) (top, (a, 18, ob) :: H)) := by
  delta X_readmissions at hf
  obtain rfl := Option.some.inj hf
  exact Runs.aloadN d24_0 rfl <| Runs.getI d24_1 w63 fS_6 <| Runs.retI d24_4 rfl ⟨by decide, by decide⟩ ⟨rfl, rfl⟩
theorem X_readmissions_pay {C : Ctx} {top : Nat} {a : Nat} {H : List (Nat × Nat × Rec)} {ob : Rec} {res : Int32} (hf : X_readmissions ob = some res) : Pays C B24 [.ref a] (top, (a, 18, ob) :: H) (Ans (some (.int res)) (top, (a, 18, ob) :: H)) :=
  Pays.of pnK (Nat.le_of_ble_eq_true rfl) (P := [vr a]) 0 rfl (X_readmissions_p hf)
def X_virtualTime (ob : Rec) (i1 : Int32) : Option (Int32) :=
  (X_validPid ob i1).bind fun r1 =>
  if r1 = (0 : Int32) then
    some (0 : Int32)
  else
    chk (4 : Int32) i1 <|
    some (gA ob 1 i1)
set_option maxRecDepth 65536 in
set_option maxHeartbeats 4000000 in
theorem X_virtualTime_p {C : Ctx} {top : Nat} {a : Nat} {H : List (Nat × Nat × Rec)} {ob : Rec} {res : Int32} (i1 : Int32) (hf : X_virtualTime ob i1 = some res) : Runs C B25 0 0 0 [vr a, vi i1] [] (top, (a, 18, ob) :: H) (Ans (some (.int res)) (top, (a, 18, ob) :: H)) := by
  delta X_virtualTime at hf
  refine Runs.aloadN d25_0 rfl <| Runs.iloadN d25_1 rfl <| ?_
  refine bind_el hf fun r1 hg2 hf => ?_
  refine Runs.callP (N := B5) (W := 0) (as := [.int i1]) (S' := []) d25_2 w76 w77 w78 rfl cw5 ar5 rk25_5_0 (by decide) rfl rfl (X_validPid_pay hg2) <| ans1 <| ?_
  refine ite_el hf (fun hc3 hf => ?_) (fun hc3 hf => ?_)
  · refine Runs.ifN d25_5 (teq hc3).2 <| ?_
    obtain rfl := Option.some.inj hf
    exact Runs.iconst d25_8 ci_0 <| Runs.retI d25_9 rfl ⟨by decide, by decide⟩ ⟨rfl, rfl⟩
  · refine Runs.ifY (pc' := 10) d25_5 (feq hc3).2 (by decide) <| ?_
    refine Runs.aloadN d25_10 rfl <| Runs.getA d25_11 fA_1 w13 (by decide) <| Runs.iloadN d25_14 rfl <| ?_
    refine chk_el hf fun hi4 hf => ?_
    obtain rfl := Option.some.inj hf
    exact Runs.ialoadA d25_15 fA_1 (by decide) hi4 <| Runs.retI d25_16 rfl ⟨by decide, by decide⟩ ⟨rfl, rfl⟩
theorem X_virtualTime_pay {C : Ctx} {top : Nat} {a : Nat} {H : List (Nat × Nat × Rec)} {ob : Rec} {res : Int32} {i1 : Int32} (hf : X_virtualTime ob i1 = some res) : Pays C B25 [.ref a, .int i1] (top, (a, 18, ob) :: H) (Ans (some (.int res)) (top, (a, 18, ob) :: H)) :=
  Pays.of pnK (Nat.le_of_ble_eq_true rfl) (P := [vr a, vi i1]) 0 rfl (X_virtualTime_p i1 hf)
def X_workingSetSize (ob : Rec) (i1 : Int32) : Option (Int32) :=
  (X_validPid ob i1).bind fun r1 =>
  if r1 = (0 : Int32) then
    some (0 : Int32)
  else
    chk (4 : Int32) i1 <|
    some (gA ob 4 i1)
set_option maxRecDepth 65536 in
set_option maxHeartbeats 4000000 in
theorem X_workingSetSize_p {C : Ctx} {top : Nat} {a : Nat} {H : List (Nat × Nat × Rec)} {ob : Rec} {res : Int32} (i1 : Int32) (hf : X_workingSetSize ob i1 = some res) : Runs C B26 0 0 0 [vr a, vi i1] [] (top, (a, 18, ob) :: H) (Ans (some (.int res)) (top, (a, 18, ob) :: H)) := by
  delta X_workingSetSize at hf
  refine Runs.aloadN d26_0 rfl <| Runs.iloadN d26_1 rfl <| ?_
  refine bind_el hf fun r1 hg2 hf => ?_
  refine Runs.callP (N := B5) (W := 0) (as := [.int i1]) (S' := []) d26_2 w76 w77 w78 rfl cw5 ar5 rk26_5_0 (by decide) rfl rfl (X_validPid_pay hg2) <| ans1 <| ?_
  refine ite_el hf (fun hc3 hf => ?_) (fun hc3 hf => ?_)
  · refine Runs.ifN d26_5 (teq hc3).2 <| ?_
    obtain rfl := Option.some.inj hf
    exact Runs.iconst d26_8 ci_0 <| Runs.retI d26_9 rfl ⟨by decide, by decide⟩ ⟨rfl, rfl⟩
  · refine Runs.ifY (pc' := 10) d26_5 (feq hc3).2 (by decide) <| ?_
    refine Runs.aloadN d26_10 rfl <| Runs.getA d26_11 fA_4 w19 (by decide) <| Runs.iloadN d26_14 rfl <| ?_
    refine chk_el hf fun hi4 hf => ?_
    obtain rfl := Option.some.inj hf
    exact Runs.ialoadA d26_15 fA_4 (by decide) hi4 <| Runs.retI d26_16 rfl ⟨by decide, by decide⟩ ⟨rfl, rfl⟩
theorem X_workingSetSize_pay {C : Ctx} {top : Nat} {a : Nat} {H : List (Nat × Nat × Rec)} {ob : Rec} {res : Int32} {i1 : Int32} (hf : X_workingSetSize ob i1 = some res) : Pays C B26 [.ref a, .int i1] (top, (a, 18, ob) :: H) (Ans (some (.int res)) (top, (a, 18, ob) :: H)) :=
  Pays.of pnK (Nat.le_of_ble_eq_true rfl) (P := [vr a, vi i1]) 0 rfl (X_workingSetSize_p i1 hf)
def X_readWord (ob : Rec) (i1 : Int32) (i2 : Int32) : Option (Int32) :=
  chk (64 : Int32) i1 <|
  if (gA ob 9 i1) < (0 : Int32) then
    chk (64 : Int32) i1 <|
    if (gA ob 10 i1) < (0 : Int32) then
      some (0 : Int32)
    else
      chk (256 : Int32) (((gA ob 10 i1) * (4 : Int32)) + i2) <|
      some (gA ob 17 (((gA ob 10 i1) * (4 : Int32)) + i2))
  else
    chk (128 : Int32) (((gA ob 9 i1) * (4 : Int32)) + i2) <|
    some (gA ob 15 (((gA ob 9 i1) * (4 : Int32)) + i2))
set_option maxRecDepth 65536 in
set_option maxHeartbeats 4000000 in
theorem X_readWord_p {C : Ctx} {top : Nat} {a : Nat} {H : List (Nat × Nat × Rec)} {ob : Rec} {res : Int32} (i1 : Int32) (i2 : Int32) (hf : X_readWord ob i1 i2 = some res) : Runs C B28 0 0 0 [vr a, vi i1, vi i2, vn, vn] [] (top, (a, 18, ob) :: H) (Ans (some (.int res)) (top, (a, 18, ob) :: H)) := by
  delta X_readWord at hf
  refine Runs.aloadN d28_0 rfl <| Runs.getA d28_1 fA_9 w29 (by decide) <| Runs.iloadN d28_4 rfl <| ?_
  refine chk_el hf fun hi1 hf => ?_
  refine Runs.ialoadA d28_5 fA_9 (by decide) hi1 <| Runs.istoreN (P' := [vr a, vi i1, vi i2, vi (gA ob 9 i1), vn]) d28_6 (by decide) rfl <| Runs.iloadN d28_7 rfl <| ?_
  refine ite_el hf (fun hc2 hf => ?_) (fun hc2 hf => ?_)
  · refine Runs.ifY (pc' := 22) d28_8 (tlt hc2).1 (by decide) <| ?_
    refine Runs.aloadN d28_22 rfl <| Runs.getA d28_23 fA_10 w31 (by decide) <| Runs.iloadN d28_26 rfl <| ?_
    refine chk_el hf fun hi3 hf => ?_
    refine Runs.ialoadA d28_27 fA_10 (by decide) hi3 <| Runs.istore (P' := [vr a, vi i1, vi i2, vi (gA ob 9 i1), vi (gA ob 10 i1)]) d28_28 (by decide) rfl <| Runs.iload d28_30 rfl <| ?_
    refine ite_el hf (fun hc4 hf => ?_) (fun hc4 hf => ?_)
    · refine Runs.ifY (pc' := 47) d28_32 (tlt hc4).1 (by decide) <| ?_
      obtain rfl := Option.some.inj hf
      exact Runs.iconst d28_47 ci_0 <| Runs.retI d28_48 rfl ⟨by decide, by decide⟩ ⟨rfl, rfl⟩
    · refine Runs.ifN d28_32 (flt hc4).1 <| ?_
      refine Runs.aloadN d28_35 rfl <| Runs.getA d28_36 fA_17 w45 (by decide) <| Runs.iload d28_39 rfl <| Runs.iconst d28_41 ci_4 <| Runs.imul d28_42 <| Runs.iloadN d28_43 rfl <| Runs.iadd d28_44 <| ?_
      refine chk_el hf fun hi5 hf => ?_
      obtain rfl := Option.some.inj hf
      exact Runs.ialoadA d28_45 fA_17 (by decide) hi5 <| Runs.retI d28_46 rfl ⟨by decide, by decide⟩ ⟨rfl, rfl⟩
  · refine Runs.ifN d28_8 (flt hc2).1 <| ?_
    refine Runs.aloadN d28_11 rfl <| Runs.getA d28_12 fA_15 w41 (by decide) <| Runs.iloadN d28_15 rfl <| Runs.iconst d28_16 ci_4 <| Runs.imul d28_17 <| Runs.iloadN d28_18 rfl <| Runs.iadd d28_19 <| ?_
    refine chk_el hf fun hi6 hf => ?_
    obtain rfl := Option.some.inj hf
    exact Runs.ialoadA d28_20 fA_15 (by decide) hi6 <| Runs.retI d28_21 rfl ⟨by decide, by decide⟩ ⟨rfl, rfl⟩
theorem X_readWord_pay {C : Ctx} {top : Nat} {a : Nat} {H : List (Nat × Nat × Rec)} {ob : Rec} {res : Int32} {i1 : Int32} {i2 : Int32} (hf : X_readWord ob i1 i2 = some res) : Pays C B28 [.ref a, .int i1, .int i2] (top, (a, 18, ob) :: H) (Ans (some (.int res)) (top, (a, 18, ob) :: H)) :=
  Pays.of pnK (Nat.le_of_ble_eq_true rfl) (P := [vr a, vi i1, vi i2, vn, vn]) 2 rfl (X_readWord_p i1 i2 hf)
def X_memorySum_w33 (NF : Nat) (ob : Rec) (k14 : Int32 → Int32 → Int32 → Option (Int32)) (k33 : Int32 → Int32 → Int32 → Int32 → Int32 → Option (Int32)) (i1 : Int32) (i2 : Int32) (i3 : Int32) (i4 : Int32) (i5 : Int32) : Option (Int32) :=
  if i5 < (4 : Int32) then
    (X_readWord ob i4 i5).bind fun r3 =>
    k33 i1 (i2 + r3) i3 i4 (i5 + (1 : Int32))
  else
    k14 i1 i2 (i3 + (1 : Int32))
def X_memorySum_l33 (NF : Nat) (ob : Rec) (k14 : Int32 → Int32 → Int32 → Option (Int32)) : Nat → Int32 → Int32 → Int32 → Int32 → Int32 → Option (Int32)
  | 0, _, _, _, _, _ => none
  | n + 1, i1, i2, i3, i4, i5 => X_memorySum_w33 NF ob k14 (X_memorySum_l33 NF ob k14 n) i1 i2 i3 i4 i5
set_option maxRecDepth 65536 in
set_option maxHeartbeats 4000000 in
theorem X_memorySum_w33_p {C : Ctx} {top : Nat} {a : Nat} {H : List (Nat × Nat × Rec)} {ob : Rec} {res : Int32} {NF : Nat} (k14 : Int32 → Int32 → Int32 → Option (Int32)) (hk14 : ∀ (i1 : Int32) (i2 : Int32) (i3 : Int32), k14 i1 i2 i3 = some res → Runs C B27 0 0 14 [vr a, vi i1, vi i2, vi i3, vn, vn] [] (top, (a, 18, ob) :: H) (Ans (some (.int res)) (top, (a, 18, ob) :: H))) (k33 : Int32 → Int32 → Int32 → Int32 → Int32 → Option (Int32)) (hk33 : ∀ (i1 : Int32) (i2 : Int32) (i3 : Int32) (i4 : Int32) (i5 : Int32), k33 i1 i2 i3 i4 i5 = some res → Runs C B27 0 0 33 [vr a, vi i1, vi i2, vi i3, vi i4, vi i5] [] (top, (a, 18, ob) :: H) (Ans (some (.int res)) (top, (a, 18, ob) :: H))) (i1 : Int32) (i2 : Int32) (i3 : Int32) (i4 : Int32) (i5 : Int32) (hf : X_memorySum_w33 NF ob k14 k33 i1 i2 i3 i4 i5 = some res) : Runs C B27 0 0 33 [vr a, vi i1, vi i2, vi i3, vi i4, vi i5] [] (top, (a, 18, ob) :: H) (Ans (some (.int res)) (top, (a, 18, ob) :: H)) := by
  delta X_memorySum_w33 at hf
  refine Runs.iload d27_33 rfl <| Runs.iconst d27_35 ci_4 <| ?_
  refine ite_el hf (fun hc2 hf => ?_) (fun hc2 hf => ?_)
  · refine Runs.icN d27_36 (tlt hc2).2.1 <| ?_
    refine Runs.iloadN d27_39 rfl <| Runs.aloadN d27_40 rfl <| Runs.iload d27_41 rfl <| Runs.iload d27_43 rfl <| ?_
    refine bind_el hf fun r3 hg4 hf => ?_
    exact Runs.callP (N := B28) (W := 1) (as := [.int i4, .int i5]) (S' := [.int i2]) d27_45 w181 w182 w183 rfl cw28 ar28 rk27_28_1 (by decide) rfl rfl (X_readWord_pay hg4) <| ans1 <| Runs.iadd d27_48 <| Runs.istoreN (P' := [vr a, vi i1, vi (i2 + r3), vi i3, vi i4, vi i5]) d27_49 (by decide) rfl <| Runs.iinc (P' := [vr a, vi i1, vi (i2 + r3), vi i3, vi i4, vi (i5 + (1 : Int32))]) d27_50 ci_1 rfl (by decide) rfl <| Runs.goto (pc' := 33) d27_53 (by decide) <| hk33 i1 (i2 + r3) i3 i4 (i5 + (1 : Int32)) hf
  · refine Runs.icY (pc' := 56) d27_36 (flt hc2).2.1 (by decide) <| ?_
    exact Runs.iinc (P' := [vr a, vi i1, vi i2, vi (i3 + (1 : Int32)), vi i4, vi i5]) d27_56 ci_1 rfl (by decide) rfl <| Runs.goto (pc' := 14) d27_59 (by decide) <| Runs.forget [true, true, true, true, false, false] rfl <| hk14 i1 i2 (i3 + (1 : Int32)) hf
theorem X_memorySum_l33_p {C : Ctx} {top : Nat} {a : Nat} {H : List (Nat × Nat × Rec)} {ob : Rec} {res : Int32} {NF : Nat} (k14 : Int32 → Int32 → Int32 → Option (Int32)) (hk14 : ∀ (i1 : Int32) (i2 : Int32) (i3 : Int32), k14 i1 i2 i3 = some res → Runs C B27 0 0 14 [vr a, vi i1, vi i2, vi i3, vn, vn] [] (top, (a, 18, ob) :: H) (Ans (some (.int res)) (top, (a, 18, ob) :: H))) (n : Nat) (i1 : Int32) (i2 : Int32) (i3 : Int32) (i4 : Int32) (i5 : Int32) (hf : X_memorySum_l33 NF ob k14 n i1 i2 i3 i4 i5 = some res) : Runs C B27 0 0 33 [vr a, vi i1, vi i2, vi i3, vi i4, vi i5] [] (top, (a, 18, ob) :: H) (Ans (some (.int res)) (top, (a, 18, ob) :: H)) := by
  induction n generalizing i1 i2 i3 i4 i5 with
  | zero => cases (show (none : Option (Int32)) = some res from hf)
  | succ n ih => exact X_memorySum_w33_p k14 hk14 (X_memorySum_l33 NF ob k14 n) (fun i1 i2 i3 i4 i5 h => ih _ _ _ _ _ h) i1 i2 i3 i4 i5 hf
def X_memorySum_w14 (NF : Nat) (ob : Rec) (k14 : Int32 → Int32 → Int32 → Option (Int32)) (i1 : Int32) (i2 : Int32) (i3 : Int32) : Option (Int32) :=
  if i3 < (gI ob 1) then
    X_memorySum_l33 NF ob k14 NF i1 i2 i3 ((i1 * (16 : Int32)) + i3) (0 : Int32)
  else
    some i2
def X_memorySum_l14 (NF : Nat) (ob : Rec) : Nat → Int32 → Int32 → Int32 → Option (Int32)
  | 0, _, _, _ => none
  | n + 1, i1, i2, i3 => X_memorySum_w14 NF ob (X_memorySum_l14 NF ob n) i1 i2 i3
set_option maxRecDepth 65536 in
set_option maxHeartbeats 4000000 in
theorem X_memorySum_w14_p {C : Ctx} {top : Nat} {a : Nat} {H : List (Nat × Nat × Rec)} {ob : Rec} {res : Int32} {NF : Nat} (k14 : Int32 → Int32 → Int32 → Option (Int32)) (hk14 : ∀ (i1 : Int32) (i2 : Int32) (i3 : Int32), k14 i1 i2 i3 = some res → Runs C B27 0 0 14 [vr a, vi i1, vi i2, vi i3, vn, vn] [] (top, (a, 18, ob) :: H) (Ans (some (.int res)) (top, (a, 18, ob) :: H))) (i1 : Int32) (i2 : Int32) (i3 : Int32) (hf : X_memorySum_w14 NF ob k14 i1 i2 i3 = some res) : Runs C B27 0 0 14 [vr a, vi i1, vi i2, vi i3, vn, vn] [] (top, (a, 18, ob) :: H) (Ans (some (.int res)) (top, (a, 18, ob) :: H)) := by
  delta X_memorySum_w14 at hf
  refine Runs.iloadN d27_14 rfl <| Runs.aloadN d27_15 rfl <| Runs.getI d27_16 w53 fS_1 <| ?_
  refine ite_el hf (fun hc1 hf => ?_) (fun hc1 hf => ?_)
  · refine Runs.icN d27_19 (tlt hc1).2.1 <| ?_
    exact Runs.iloadN d27_22 rfl <| Runs.bipush d27_23 cb_16 <| Runs.imul d27_25 <| Runs.iloadN d27_26 rfl <| Runs.iadd d27_27 <| Runs.istore (P' := [vr a, vi i1, vi i2, vi i3, vi ((i1 * (16 : Int32)) + i3), vn]) d27_28 (by decide) rfl <| Runs.iconst d27_30 ci_0 <| Runs.istore (P' := [vr a, vi i1, vi i2, vi i3, vi ((i1 * (16 : Int32)) + i3), vi (0 : Int32)]) d27_31 (by decide) rfl <| X_memorySum_l33_p k14 hk14 NF i1 i2 i3 ((i1 * (16 : Int32)) + i3) (0 : Int32) hf
  · refine Runs.icY (pc' := 62) d27_19 (flt hc1).2.1 (by decide) <| ?_
    obtain rfl := Option.some.inj hf
    exact Runs.iloadN d27_62 rfl <| Runs.retI d27_63 rfl ⟨by decide, by decide⟩ ⟨rfl, rfl⟩
theorem X_memorySum_l14_p {C : Ctx} {top : Nat} {a : Nat} {H : List (Nat × Nat × Rec)} {ob : Rec} {res : Int32} {NF : Nat} (n : Nat) (i1 : Int32) (i2 : Int32) (i3 : Int32) (hf : X_memorySum_l14 NF ob n i1 i2 i3 = some res) : Runs C B27 0 0 14 [vr a, vi i1, vi i2, vi i3, vn, vn] [] (top, (a, 18, ob) :: H) (Ans (some (.int res)) (top, (a, 18, ob) :: H)) := by
  induction n generalizing i1 i2 i3 with
  | zero => cases (show (none : Option (Int32)) = some res from hf)
  | succ n ih => exact X_memorySum_w14_p (X_memorySum_l14 NF ob n) (fun i1 i2 i3 h => ih _ _ _ h) i1 i2 i3 hf
def X_memorySum (NF : Nat) (ob : Rec) (i1 : Int32) : Option (Int32) :=
  (X_validPid ob i1).bind fun r5 =>
  if r5 = (0 : Int32) then
    some (0 : Int32)
  else
    X_memorySum_l14 NF ob NF i1 (0 : Int32) (0 : Int32)
set_option maxRecDepth 65536 in
set_option maxHeartbeats 4000000 in
theorem X_memorySum_p {C : Ctx} {top : Nat} {a : Nat} {H : List (Nat × Nat × Rec)} {ob : Rec} {res : Int32} {NF : Nat} (i1 : Int32) (hf : X_memorySum NF ob i1 = some res) : Runs C B27 0 0 0 [vr a, vi i1, vn, vn, vn, vn] [] (top, (a, 18, ob) :: H) (Ans (some (.int res)) (top, (a, 18, ob) :: H)) := by
  delta X_memorySum at hf
  refine Runs.aloadN d27_0 rfl <| Runs.iloadN d27_1 rfl <| ?_
  refine bind_el hf fun r5 hg6 hf => ?_
  refine Runs.callP (N := B5) (W := 0) (as := [.int i1]) (S' := []) d27_2 w76 w77 w78 rfl cw5 ar5 rk27_5_0 (by decide) rfl rfl (X_validPid_pay hg6) <| ans1 <| ?_
  refine ite_el hf (fun hc7 hf => ?_) (fun hc7 hf => ?_)
  · refine Runs.ifN d27_5 (teq hc7).2 <| ?_
    obtain rfl := Option.some.inj hf
    exact Runs.iconst d27_8 ci_0 <| Runs.retI d27_9 rfl ⟨by decide, by decide⟩ ⟨rfl, rfl⟩
  · refine Runs.ifY (pc' := 10) d27_5 (feq hc7).2 (by decide) <| ?_
    exact Runs.iconst d27_10 ci_0 <| Runs.istoreN (P' := [vr a, vi i1, vi (0 : Int32), vn, vn, vn]) d27_11 (by decide) rfl <| Runs.iconst d27_12 ci_0 <| Runs.istoreN (P' := [vr a, vi i1, vi (0 : Int32), vi (0 : Int32), vn, vn]) d27_13 (by decide) rfl <| X_memorySum_l14_p NF i1 (0 : Int32) (0 : Int32) hf
theorem X_memorySum_pay {C : Ctx} {top : Nat} {a : Nat} {H : List (Nat × Nat × Rec)} {ob : Rec} {res : Int32} {NF : Nat} {i1 : Int32} (hf : X_memorySum NF ob i1 = some res) : Pays C B27 [.ref a, .int i1] (top, (a, 18, ob) :: H) (Ans (some (.int res)) (top, (a, 18, ob) :: H)) :=
  Pays.of pnK (Nat.le_of_ble_eq_true rfl) (P := [vr a, vi i1, vn, vn, vn, vn]) 4 rfl (X_memorySum_p i1 hf)
def L_law_b402 (NF : Nat) (ob : Rec) (i5 : Int32) (i12 : Int32) (t0 : Int32) (t1 : Int32) : Option (Int32) :=
  if t0 = t1 then
    (X_workingSetSize ob (1 : Int32)).bind fun r66 =>
    if r66 = i12 then
      (X_activeTotal NF ob).bind fun r69 =>
      if r69 = i12 then
        (X_memorySum NF ob (1 : Int32)).bind fun r72 =>
        if r72 = ((i5 + i5) + (1 : Int32)) then
          (X_memorySum NF ob (0 : Int32)).bind fun r75 =>
          if r75 = (0 : Int32) then
            (X_virtualTime ob (0 : Int32)).bind fun r78 =>
            if r78 = (0 : Int32) then
              (X_workingSetSize ob (0 : Int32)).bind fun r81 =>
              if r81 = (0 : Int32) then
                some (1 : Int32)
              else
                some (0 : Int32)
            else
              some (0 : Int32)
          else
            some (0 : Int32)
        else
          some (0 : Int32)
      else
        some (0 : Int32)
    else
      some (0 : Int32)
  else
    some (0 : Int32)
set_option maxRecDepth 65536 in
set_option maxHeartbeats 4000000 in
theorem L_law_b402_p {C : Ctx} {res : Int32} {NF : Nat} (ob : Rec) (i5 : Int32) (i12 : Int32) (t0 : Int32) (t1 : Int32) (hf : L_law_b402 NF ob i5 i12 t0 t1 = some res) : Runs C B0 19 978 402 [vn, vn, vn, vn, vn, vi i5, vr C.2.2.1, vn, vn, vn, vn, vn, vi i12, vn, vn, vn, vn, vn] [.int t1, .int t0] (C.2.2.1 + 1 + 18, (C.2.2.1, 18, ob) :: []) (fun v _ => v = (some (.int res))) := by
  delta L_law_b402 at hf
  refine ite_el hf (fun hc65 hf => ?_) (fun hc65 hf => ?_)
  · refine Runs.icY (pc' := 407) d0_402 (teq hc65).1 (by decide) <| ?_
    refine Runs.aload d0_407 rfl <| Runs.iconst d0_409 ci_1 <| ?_
    refine bind_el hf fun r66 hg67 hf => ?_
    refine Runs.callV (N := B26) (W := 0) (as := [.int (1 : Int32)]) (S' := []) d0_410 w171 w172 w173 w174 cw26 ar26 rk0_26_0 (by decide) rfl rfl (X_workingSetSize_pay hg67) <| ans1 <| Runs.iload d0_413 rfl <| ?_
    refine ite_el hf (fun hc68 hf => ?_) (fun hc68 hf => ?_)
    · refine Runs.icY (pc' := 420) d0_415 (teq hc68).1 (by decide) <| ?_
      refine Runs.aload d0_420 rfl <| ?_
      refine bind_el hf fun r69 hg70 hf => ?_
      refine Runs.callV (N := B12) (W := 0) (as := []) (S' := []) d0_422 w134 w105 w106 w107 cw12 ar12 rk0_12_0 (by decide) rfl rfl (X_activeTotal_pay hg70) <| ans1 <| Runs.iload d0_425 rfl <| ?_
      refine ite_el hf (fun hc71 hf => ?_) (fun hc71 hf => ?_)
      · refine Runs.icY (pc' := 432) d0_427 (teq hc71).1 (by decide) <| ?_
        refine Runs.aload d0_432 rfl <| Runs.iconst d0_434 ci_1 <| ?_
        refine bind_el hf fun r72 hg73 hf => ?_
        refine Runs.callV (N := B27) (W := 0) (as := [.int (1 : Int32)]) (S' := []) d0_435 w176 w177 w178 w179 cw27 ar27 rk0_27_0 (by decide) rfl rfl (X_memorySum_pay hg73) <| ans1 <| Runs.iload d0_438 rfl <| Runs.iload d0_440 rfl <| Runs.iadd d0_442 <| Runs.iconst d0_443 ci_1 <| Runs.iadd d0_444 <| ?_
        refine ite_el hf (fun hc74 hf => ?_) (fun hc74 hf => ?_)
        · refine Runs.icY (pc' := 450) d0_445 (teq hc74).1 (by decide) <| ?_
          refine Runs.aload d0_450 rfl <| Runs.iconst d0_452 ci_0 <| ?_
          refine bind_el hf fun r75 hg76 hf => ?_
          refine Runs.callV (N := B27) (W := 0) (as := [.int (0 : Int32)]) (S' := []) d0_453 w176 w177 w178 w179 cw27 ar27 rk0_27_0 (by decide) rfl rfl (X_memorySum_pay hg76) <| ans1 <| ?_
          refine ite_el hf (fun hc77 hf => ?_) (fun hc77 hf => ?_)
          · refine Runs.ifY (pc' := 461) d0_456 (teq hc77).1 (by decide) <| ?_
            refine Runs.aload d0_461 rfl <| Runs.iconst d0_463 ci_0 <| ?_
            refine bind_el hf fun r78 hg79 hf => ?_
            refine Runs.callV (N := B25) (W := 0) (as := [.int (0 : Int32)]) (S' := []) d0_464 w166 w167 w168 w169 cw25 ar25 rk0_25_0 (by decide) rfl rfl (X_virtualTime_pay hg79) <| ans1 <| ?_
            refine ite_el hf (fun hc80 hf => ?_) (fun hc80 hf => ?_)
            · refine Runs.ifY (pc' := 472) d0_467 (teq hc80).1 (by decide) <| ?_
              refine Runs.aload d0_472 rfl <| Runs.iconst d0_474 ci_0 <| ?_
              refine bind_el hf fun r81 hg82 hf => ?_
              refine Runs.callV (N := B26) (W := 0) (as := [.int (0 : Int32)]) (S' := []) d0_475 w171 w172 w173 w174 cw26 ar26 rk0_26_0 (by decide) rfl rfl (X_workingSetSize_pay hg82) <| ans1 <| ?_
              refine ite_el hf (fun hc83 hf => ?_) (fun hc83 hf => ?_)
              · refine Runs.ifN d0_478 (teq hc83).2 <| ?_
                obtain rfl := Option.some.inj hf
                exact Runs.iconst d0_481 ci_1 <| Runs.goto (pc' := 486) d0_482 (by decide) <| Runs.retZ (y := (1 : Int32)) d0_486 rfl ⟨by decide, by decide⟩ rfl rfl
              · refine Runs.ifY (pc' := 485) d0_478 (feq hc83).2 (by decide) <| ?_
                obtain rfl := Option.some.inj hf
                exact Runs.iconst d0_485 ci_0 <| Runs.retZ (y := (0 : Int32)) d0_486 rfl ⟨by decide, by decide⟩ rfl rfl
            · refine Runs.ifN d0_467 (feq hc80).1 <| ?_
              obtain rfl := Option.some.inj hf
              exact Runs.iconst d0_470 ci_0 <| Runs.retZ (y := (0 : Int32)) d0_471 rfl ⟨by decide, by decide⟩ rfl rfl
          · refine Runs.ifN d0_456 (feq hc77).1 <| ?_
            obtain rfl := Option.some.inj hf
            exact Runs.iconst d0_459 ci_0 <| Runs.retZ (y := (0 : Int32)) d0_460 rfl ⟨by decide, by decide⟩ rfl rfl
        · refine Runs.icN d0_445 (feq hc74).1 <| ?_
          obtain rfl := Option.some.inj hf
          exact Runs.iconst d0_448 ci_0 <| Runs.retZ (y := (0 : Int32)) d0_449 rfl ⟨by decide, by decide⟩ rfl rfl
      · refine Runs.icN d0_427 (feq hc71).1 <| ?_
        obtain rfl := Option.some.inj hf
        exact Runs.iconst d0_430 ci_0 <| Runs.retZ (y := (0 : Int32)) d0_431 rfl ⟨by decide, by decide⟩ rfl rfl
    · refine Runs.icN d0_415 (feq hc68).1 <| ?_
      obtain rfl := Option.some.inj hf
      exact Runs.iconst d0_418 ci_0 <| Runs.retZ (y := (0 : Int32)) d0_419 rfl ⟨by decide, by decide⟩ rfl rfl
  · refine Runs.icN d0_402 (feq hc65).1 <| ?_
    obtain rfl := Option.some.inj hf
    exact Runs.iconst d0_405 ci_0 <| Runs.retZ (y := (0 : Int32)) d0_406 rfl ⟨by decide, by decide⟩ rfl rfl
def L_law_b312 (NF : Nat) (ob : Rec) (i5 : Int32) (i8 : Int32) (i12 : Int32) (i14 : Int32) (i15 : Int32) (t0 : Int32) (t1 : Int32) : Option (Int32) :=
  if t0 = t1 then
    bind2 (X_release NF ob (0 : Int32)) fun r45 q46 =>
    if r45 = (0 : Int32) then
      (X_isSuspended q46 (1 : Int32)).bind fun r49 =>
      if r49 = (0 : Int32) then
        (X_readmissions q46).bind fun r52 =>
        if r52 = i15 then
          (X_suspensions q46).bind fun r55 =>
          if r55 = i15 then
            bind2 (X_load NF q46 (1 : Int32) (((4 : Int32) * i8) + (1 : Int32))) fun r58 q59 =>
            if r58 = (i5 + (1 : Int32)).toInt64 then
              (X_virtualTime q59 (1 : Int32)).bind fun r62 =>
              if i14 = (0 : Int32) then
                L_law_b402 NF q59 i5 i12 r62 (4 : Int32)
              else
                L_law_b402 NF q59 i5 i12 r62 (3 : Int32)
            else
              some (0 : Int32)
          else
            some (0 : Int32)
        else
          some (0 : Int32)
      else
        some (0 : Int32)
    else
      some (0 : Int32)
  else
    some (0 : Int32)
set_option maxRecDepth 65536 in
set_option maxHeartbeats 4000000 in
theorem L_law_b312_p {C : Ctx} {res : Int32} {NF : Nat} (ob : Rec) (i5 : Int32) (i8 : Int32) (i12 : Int32) (i14 : Int32) (i15 : Int32) (t0 : Int32) (t1 : Int32) (hf : L_law_b312 NF ob i5 i8 i12 i14 i15 t0 t1 = some res) : Runs C B0 19 978 312 [vn, vn, vn, vn, vn, vi i5, vr C.2.2.1, vn, vi i8, vn, vn, vn, vi i12, vn, vi i14, vi i15, vn, vn] [.int t1, .int t0] (C.2.2.1 + 1 + 18, (C.2.2.1, 18, ob) :: []) (fun v _ => v = (some (.int res))) := by
  delta L_law_b312 at hf
  refine ite_el hf (fun hc44 hf => ?_) (fun hc44 hf => ?_)
  · refine Runs.icY (pc' := 317) d0_312 (teq hc44).1 (by decide) <| ?_
    refine Runs.aload d0_317 rfl <| Runs.iconst d0_319 ci_0 <| ?_
    refine bind2_el hf fun r45 q46 hg47 hf => ?_
    refine Runs.callV (N := B22) (W := 0) (as := [.int (0 : Int32)]) (S' := []) d0_320 w152 w153 w154 w155 cw22 ar22 rk0_22_0 (by decide) rfl rfl (X_release_pay hg47) <| ans1 <| ?_
    refine ite_el hf (fun hc48 hf => ?_) (fun hc48 hf => ?_)
    · refine Runs.ifY (pc' := 328) d0_323 (teq hc48).1 (by decide) <| ?_
      refine Runs.aload d0_328 rfl <| Runs.iconst d0_330 ci_1 <| ?_
      refine bind_el hf fun r49 hg50 hf => ?_
      refine Runs.callV (N := B18) (W := 0) (as := [.int (1 : Int32)]) (S' := []) d0_331 w129 w130 w131 w132 cw18 ar18 rk0_18_0 (by decide) rfl rfl (X_isSuspended_pay hg50) <| ans1 <| ?_
      refine ite_el hf (fun hc51 hf => ?_) (fun hc51 hf => ?_)
      · refine Runs.ifY (pc' := 339) d0_334 (teq hc51).1 (by decide) <| ?_
        refine Runs.aload d0_339 rfl <| ?_
        refine bind_el hf fun r52 hg53 hf => ?_
        refine Runs.callV (N := B24) (W := 0) (as := []) (S' := []) d0_341 w161 w162 w163 w164 cw24 ar24 rk0_24_0 (by decide) rfl rfl (X_readmissions_pay hg53) <| ans1 <| Runs.iload d0_344 rfl <| ?_
        refine ite_el hf (fun hc54 hf => ?_) (fun hc54 hf => ?_)
        · refine Runs.icY (pc' := 351) d0_346 (teq hc54).1 (by decide) <| ?_
          refine Runs.aload d0_351 rfl <| ?_
          refine bind_el hf fun r55 hg56 hf => ?_
          refine Runs.callV (N := B19) (W := 0) (as := []) (S' := []) d0_353 w135 w136 w137 w138 cw19 ar19 rk0_19_0 (by decide) rfl rfl (X_suspensions_pay hg56) <| ans1 <| Runs.iload d0_356 rfl <| ?_
          refine ite_el hf (fun hc57 hf => ?_) (fun hc57 hf => ?_)
          · refine Runs.icY (pc' := 363) d0_358 (teq hc57).1 (by decide) <| ?_
            refine Runs.aload d0_363 rfl <| Runs.iconst d0_365 ci_1 <| Runs.iconst d0_366 ci_4 <| Runs.iload d0_367 rfl <| Runs.imul d0_369 <| Runs.iconst d0_370 ci_1 <| Runs.iadd d0_371 <| ?_
            refine bind2_el hf fun r58 q59 hg60 hf => ?_
            refine Runs.callV (N := B20) (W := 0) (as := [.int (1 : Int32), .int (((4 : Int32) * i8) + (1 : Int32))]) (S' := []) d0_372 w140 w141 w142 w143 cw20 ar20 rk0_20_0 (by decide) rfl rfl (X_load_pay hg60) <| ans1 <| Runs.iload d0_375 rfl <| Runs.iconst d0_377 ci_1 <| Runs.iadd d0_378 <| Runs.i2l d0_379 <| Runs.lcmp d0_380 <| ?_
            refine ite_el hf (fun hc61 hf => ?_) (fun hc61 hf => ?_)
            · refine Runs.ifY (pc' := 386) d0_381 (teq ((lw_eq _ _).mpr hc61)).1 (by decide) <| ?_
              refine Runs.aload d0_386 rfl <| Runs.iconst d0_388 ci_1 <| ?_
              refine bind_el hf fun r62 hg63 hf => ?_
              refine Runs.callV (N := B25) (W := 0) (as := [.int (1 : Int32)]) (S' := []) d0_389 w166 w167 w168 w169 cw25 ar25 rk0_25_0 (by decide) rfl rfl (X_virtualTime_pay hg63) <| ans1 <| Runs.iload d0_392 rfl <| ?_
              refine ite_el hf (fun hc64 hf => ?_) (fun hc64 hf => ?_)
              · refine Runs.ifY (pc' := 401) d0_394 (teq hc64).1 (by decide) <| ?_
                exact Runs.iconst d0_401 ci_4 <| Runs.forget [false, false, false, false, false, true, true, false, false, false, false, false, true, false, false, false, false, false] rfl <| L_law_b402_p q59 i5 i12 r62 (4 : Int32) hf
              · refine Runs.ifN d0_394 (feq hc64).1 <| ?_
                exact Runs.iconst d0_397 ci_3 <| Runs.goto (pc' := 402) d0_398 (by decide) <| Runs.forget [false, false, false, false, false, true, true, false, false, false, false, false, true, false, false, false, false, false] rfl <| L_law_b402_p q59 i5 i12 r62 (3 : Int32) hf
            · refine Runs.ifN d0_381 (feq (fun u => hc61 ((lw_eq _ _).mp u))).1 <| ?_
              obtain rfl := Option.some.inj hf
              exact Runs.iconst d0_384 ci_0 <| Runs.retZ (y := (0 : Int32)) d0_385 rfl ⟨by decide, by decide⟩ rfl rfl
          · refine Runs.icN d0_358 (feq hc57).1 <| ?_
            obtain rfl := Option.some.inj hf
            exact Runs.iconst d0_361 ci_0 <| Runs.retZ (y := (0 : Int32)) d0_362 rfl ⟨by decide, by decide⟩ rfl rfl
        · refine Runs.icN d0_346 (feq hc54).1 <| ?_
          obtain rfl := Option.some.inj hf
          exact Runs.iconst d0_349 ci_0 <| Runs.retZ (y := (0 : Int32)) d0_350 rfl ⟨by decide, by decide⟩ rfl rfl
      · refine Runs.ifN d0_334 (feq hc51).1 <| ?_
        obtain rfl := Option.some.inj hf
        exact Runs.iconst d0_337 ci_0 <| Runs.retZ (y := (0 : Int32)) d0_338 rfl ⟨by decide, by decide⟩ rfl rfl
    · refine Runs.ifN d0_323 (feq hc48).1 <| ?_
      obtain rfl := Option.some.inj hf
      exact Runs.iconst d0_326 ci_0 <| Runs.retZ (y := (0 : Int32)) d0_327 rfl ⟨by decide, by decide⟩ rfl rfl
  · refine Runs.icN d0_312 (feq hc44).1 <| ?_
    obtain rfl := Option.some.inj hf
    exact Runs.iconst d0_315 ci_0 <| Runs.retZ (y := (0 : Int32)) d0_316 rfl ⟨by decide, by decide⟩ rfl rfl
def L_law_b291 (NF : Nat) (ob : Rec) (i5 : Int32) (i8 : Int32) (i12 : Int32) (i14 : Int32) (i15 : Int32) (t0 : Int64) (t1 : Int64) : Option (Int32) :=
  if t0 = t1 then
    (X_lastStatus ob).bind fun r41 =>
    if i14 = (0 : Int32) then
      L_law_b312 NF ob i5 i8 i12 i14 i15 r41 (0 : Int32)
    else
      L_law_b312 NF ob i5 i8 i12 i14 i15 r41 (3 : Int32)
  else
    some (0 : Int32)
set_option maxRecDepth 65536 in
set_option maxHeartbeats 4000000 in
theorem L_law_b291_p {C : Ctx} {res : Int32} {NF : Nat} (ob : Rec) (i5 : Int32) (i8 : Int32) (i12 : Int32) (i14 : Int32) (i15 : Int32) (t0 : Int64) (t1 : Int64) (hf : L_law_b291 NF ob i5 i8 i12 i14 i15 t0 t1 = some res) : Runs C B0 19 978 291 [vn, vn, vn, vn, vn, vi i5, vr C.2.2.1, vn, vi i8, vn, vn, vn, vi i12, vn, vi i14, vi i15, vn, vn] [.long t1, .long t0] (C.2.2.1 + 1 + 18, (C.2.2.1, 18, ob) :: []) (fun v _ => v = (some (.int res))) := by
  delta L_law_b291 at hf
  refine Runs.lcmp d0_291 <| ?_
  refine ite_el hf (fun hc40 hf => ?_) (fun hc40 hf => ?_)
  · refine Runs.ifY (pc' := 297) d0_292 (teq ((lw_eq _ _).mpr hc40)).1 (by decide) <| ?_
    refine Runs.aload d0_297 rfl <| ?_
    refine bind_el hf fun r41 hg42 hf => ?_
    refine Runs.callV (N := B21) (W := 0) (as := []) (S' := []) d0_299 w147 w148 w149 w150 cw21 ar21 rk0_21_0 (by decide) rfl rfl (X_lastStatus_pay hg42) <| ans1 <| Runs.iload d0_302 rfl <| ?_
    refine ite_el hf (fun hc43 hf => ?_) (fun hc43 hf => ?_)
    · refine Runs.ifY (pc' := 311) d0_304 (teq hc43).1 (by decide) <| ?_
      exact Runs.iconst d0_311 ci_0 <| L_law_b312_p ob i5 i8 i12 i14 i15 r41 (0 : Int32) hf
    · refine Runs.ifN d0_304 (feq hc43).1 <| ?_
      exact Runs.iconst d0_307 ci_3 <| Runs.goto (pc' := 312) d0_308 (by decide) <| L_law_b312_p ob i5 i8 i12 i14 i15 r41 (3 : Int32) hf
  · refine Runs.ifN d0_292 (feq (fun u => hc40 ((lw_eq _ _).mp u))).1 <| ?_
    obtain rfl := Option.some.inj hf
    exact Runs.iconst d0_295 ci_0 <| Runs.retZ (y := (0 : Int32)) d0_296 rfl ⟨by decide, by decide⟩ rfl rfl
def L_law_b246 (NF : Nat) (ob : Rec) (i5 : Int32) (i7 : Int32) (i8 : Int32) (i12 : Int32) (i14 : Int32) (i15 : Int32) (t0 : Int32) (t1 : Int32) : Option (Int32) :=
  if t0 = t1 then
    (X_suspensions ob).bind fun r33 =>
    if r33 = i15 then
      bind2 (X_load NF ob (1 : Int32) ((4 : Int32) * i7)) fun r36 q37 =>
      if i14 = (0 : Int32) then
        L_law_b291 NF q37 i5 i8 i12 i14 i15 r36 i5.toInt64
      else
        L_law_b291 NF q37 i5 i8 i12 i14 i15 r36 (-9223372036854775808 : Int64)
    else
      some (0 : Int32)
  else
    some (0 : Int32)
set_option maxRecDepth 65536 in
set_option maxHeartbeats 4000000 in
theorem L_law_b246_p {C : Ctx} {res : Int32} {NF : Nat} (ob : Rec) (i5 : Int32) (i7 : Int32) (i8 : Int32) (i12 : Int32) (i14 : Int32) (i15 : Int32) (t0 : Int32) (t1 : Int32) (hf : L_law_b246 NF ob i5 i7 i8 i12 i14 i15 t0 t1 = some res) : Runs C B0 19 978 246 [vn, vn, vn, vn, vn, vi i5, vr C.2.2.1, vi i7, vi i8, vn, vn, vn, vi i12, vn, vi i14, vi i15, vn, vn] [.int t1, .int t0] (C.2.2.1 + 1 + 18, (C.2.2.1, 18, ob) :: []) (fun v _ => v = (some (.int res))) := by
  delta L_law_b246 at hf
  refine ite_el hf (fun hc32 hf => ?_) (fun hc32 hf => ?_)
  · refine Runs.icY (pc' := 251) d0_246 (teq hc32).1 (by decide) <| ?_
    refine Runs.aload d0_251 rfl <| ?_
    refine bind_el hf fun r33 hg34 hf => ?_
    refine Runs.callV (N := B19) (W := 0) (as := []) (S' := []) d0_253 w135 w136 w137 w138 cw19 ar19 rk0_19_0 (by decide) rfl rfl (X_suspensions_pay hg34) <| ans1 <| Runs.iload d0_256 rfl <| ?_
    refine ite_el hf (fun hc35 hf => ?_) (fun hc35 hf => ?_)
    · refine Runs.icY (pc' := 263) d0_258 (teq hc35).1 (by decide) <| ?_
      refine Runs.aload d0_263 rfl <| Runs.iconst d0_265 ci_1 <| Runs.iconst d0_266 ci_4 <| Runs.iload d0_267 rfl <| Runs.imul d0_269 <| ?_
      refine bind2_el hf fun r36 q37 hg38 hf => ?_
      refine Runs.callV (N := B20) (W := 0) (as := [.int (1 : Int32), .int ((4 : Int32) * i7)]) (S' := []) d0_270 w140 w141 w142 w143 cw20 ar20 rk0_20_0 (by decide) rfl rfl (X_load_pay hg38) <| ans1 <| Runs.lstore (P' := [vn, vn, vn, vn, vn, vi i5, vr C.2.2.1, vi i7, vi i8, vn, vn, vn, vi i12, vn, vi i14, vi i15, vl r36, v2]) d0_273 (by decide) rfl <| Runs.lload d0_275 rfl <| Runs.iload d0_277 rfl <| ?_
      refine ite_el hf (fun hc39 hf => ?_) (fun hc39 hf => ?_)
      · refine Runs.ifY (pc' := 288) d0_279 (teq hc39).1 (by decide) <| ?_
        exact Runs.iload d0_288 rfl <| Runs.i2l d0_290 <| Runs.forget [false, false, false, false, false, true, true, false, true, false, false, false, true, false, true, true, false, false] rfl <| L_law_b291_p q37 i5 i8 i12 i14 i15 r36 i5.toInt64 hf
      · refine Runs.ifN d0_279 (feq hc39).1 <| ?_
        exact Runs.ldc2 d0_282 w146 <| Runs.goto (pc' := 291) d0_285 (by decide) <| Runs.forget [false, false, false, false, false, true, true, false, true, false, false, false, true, false, true, true, false, false] rfl <| L_law_b291_p q37 i5 i8 i12 i14 i15 r36 (-9223372036854775808 : Int64) hf
    · refine Runs.icN d0_258 (feq hc35).1 <| ?_
      obtain rfl := Option.some.inj hf
      exact Runs.iconst d0_261 ci_0 <| Runs.retZ (y := (0 : Int32)) d0_262 rfl ⟨by decide, by decide⟩ rfl rfl
  · refine Runs.icN d0_246 (feq hc32).1 <| ?_
    obtain rfl := Option.some.inj hf
    exact Runs.iconst d0_249 ci_0 <| Runs.retZ (y := (0 : Int32)) d0_250 rfl ⟨by decide, by decide⟩ rfl rfl
def L_law_b116 (NF : Nat) (ob : Rec) (i5 : Int32) (i7 : Int32) (i8 : Int32) (i9 : Int32) (i10 : Int32) (i11 : Int32) (i12 : Int32) (i13 : Int32) (i14 : Int32) (t0 : Int32) : Option (Int32) :=
  bind2 (X_store NF ob (1 : Int32) ((4 : Int32) * i7) i5) fun r6 q7 =>
  if r6 = (0 : Int32) then
    bind2 (X_store NF q7 (1 : Int32) (((4 : Int32) * i8) + (1 : Int32)) (i5 + (1 : Int32))) fun r10 q11 =>
    if r10 = (0 : Int32) then
      bind2 (X_store NF q11 (0 : Int32) (((4 : Int32) * i9) + (2 : Int32)) i5) fun r14 q15 =>
      if r14 = (0 : Int32) then
        bind2 (X_store NF q15 (0 : Int32) (((4 : Int32) * i10) + (2 : Int32)) i5) fun r18 q19 =>
        if r18 = (0 : Int32) then
          bind2 (X_store NF q19 (0 : Int32) (((4 : Int32) * i11) + (2 : Int32)) i5) fun r22 q23 =>
          if r22 = (0 : Int32) then
            (X_isSuspended q23 (1 : Int32)).bind fun r26 =>
            if r26 = i14 then
              (X_activeTotal NF q23).bind fun r29 =>
              if i14 = (0 : Int32) then
                L_law_b246 NF q23 i5 i7 i8 i12 i14 t0 r29 (i13 + i12)
              else
                L_law_b246 NF q23 i5 i7 i8 i12 i14 t0 r29 i13
            else
              some (0 : Int32)
          else
            some (0 : Int32)
        else
          some (0 : Int32)
      else
        some (0 : Int32)
    else
      some (0 : Int32)
  else
    some (0 : Int32)
set_option maxRecDepth 65536 in
set_option maxHeartbeats 4000000 in
theorem L_law_b116_p {C : Ctx} {res : Int32} {NF : Nat} (ob : Rec) (i5 : Int32) (i7 : Int32) (i8 : Int32) (i9 : Int32) (i10 : Int32) (i11 : Int32) (i12 : Int32) (i13 : Int32) (i14 : Int32) (t0 : Int32) (hf : L_law_b116 NF ob i5 i7 i8 i9 i10 i11 i12 i13 i14 t0 = some res) : Runs C B0 19 978 116 [vn, vn, vn, vn, vn, vi i5, vr C.2.2.1, vi i7, vi i8, vi i9, vi i10, vi i11, vi i12, vi i13, vi i14, vn, vn, vn] [.int t0] (C.2.2.1 + 1 + 18, (C.2.2.1, 18, ob) :: []) (fun v _ => v = (some (.int res))) := by
  delta L_law_b116 at hf
  refine Runs.istore (P' := [vn, vn, vn, vn, vn, vi i5, vr C.2.2.1, vi i7, vi i8, vi i9, vi i10, vi i11, vi i12, vi i13, vi i14, vi t0, vn, vn]) d0_116 (by decide) rfl <| Runs.aload d0_118 rfl <| Runs.iconst d0_120 ci_1 <| Runs.iconst d0_121 ci_4 <| Runs.iload d0_122 rfl <| Runs.imul d0_124 <| Runs.iload d0_125 rfl <| ?_
  refine bind2_el hf fun r6 q7 hg8 hf => ?_
  refine Runs.callV (N := B3) (W := 0) (as := [.int (1 : Int32), .int ((4 : Int32) * i7), .int i5]) (S' := []) d0_127 w67 w68 w69 w70 cw3 ar3 rk0_3_0 (by decide) rfl rfl (X_store_pay hg8) <| ans1 <| ?_
  refine ite_el hf (fun hc9 hf => ?_) (fun hc9 hf => ?_)
  · refine Runs.ifY (pc' := 135) d0_130 (teq hc9).1 (by decide) <| ?_
    refine Runs.aload d0_135 rfl <| Runs.iconst d0_137 ci_1 <| Runs.iconst d0_138 ci_4 <| Runs.iload d0_139 rfl <| Runs.imul d0_141 <| Runs.iconst d0_142 ci_1 <| Runs.iadd d0_143 <| Runs.iload d0_144 rfl <| Runs.iconst d0_146 ci_1 <| Runs.iadd d0_147 <| ?_
    refine bind2_el hf fun r10 q11 hg12 hf => ?_
    refine Runs.callV (N := B3) (W := 0) (as := [.int (1 : Int32), .int (((4 : Int32) * i8) + (1 : Int32)), .int (i5 + (1 : Int32))]) (S' := []) d0_148 w67 w68 w69 w70 cw3 ar3 rk0_3_0 (by decide) rfl rfl (X_store_pay hg12) <| ans1 <| ?_
    refine ite_el hf (fun hc13 hf => ?_) (fun hc13 hf => ?_)
    · refine Runs.ifY (pc' := 156) d0_151 (teq hc13).1 (by decide) <| ?_
      refine Runs.aload d0_156 rfl <| Runs.iconst d0_158 ci_0 <| Runs.iconst d0_159 ci_4 <| Runs.iload d0_160 rfl <| Runs.imul d0_162 <| Runs.iconst d0_163 ci_2 <| Runs.iadd d0_164 <| Runs.iload d0_165 rfl <| ?_
      refine bind2_el hf fun r14 q15 hg16 hf => ?_
      refine Runs.callV (N := B3) (W := 0) (as := [.int (0 : Int32), .int (((4 : Int32) * i9) + (2 : Int32)), .int i5]) (S' := []) d0_167 w67 w68 w69 w70 cw3 ar3 rk0_3_0 (by decide) rfl rfl (X_store_pay hg16) <| ans1 <| ?_
      refine ite_el hf (fun hc17 hf => ?_) (fun hc17 hf => ?_)
      · refine Runs.ifY (pc' := 175) d0_170 (teq hc17).1 (by decide) <| ?_
        refine Runs.aload d0_175 rfl <| Runs.iconst d0_177 ci_0 <| Runs.iconst d0_178 ci_4 <| Runs.iload d0_179 rfl <| Runs.imul d0_181 <| Runs.iconst d0_182 ci_2 <| Runs.iadd d0_183 <| Runs.iload d0_184 rfl <| ?_
        refine bind2_el hf fun r18 q19 hg20 hf => ?_
        refine Runs.callV (N := B3) (W := 0) (as := [.int (0 : Int32), .int (((4 : Int32) * i10) + (2 : Int32)), .int i5]) (S' := []) d0_186 w67 w68 w69 w70 cw3 ar3 rk0_3_0 (by decide) rfl rfl (X_store_pay hg20) <| ans1 <| ?_
        refine ite_el hf (fun hc21 hf => ?_) (fun hc21 hf => ?_)
        · refine Runs.ifY (pc' := 194) d0_189 (teq hc21).1 (by decide) <| ?_
          refine Runs.aload d0_194 rfl <| Runs.iconst d0_196 ci_0 <| Runs.iconst d0_197 ci_4 <| Runs.iload d0_198 rfl <| Runs.imul d0_200 <| Runs.iconst d0_201 ci_2 <| Runs.iadd d0_202 <| Runs.iload d0_203 rfl <| ?_
          refine bind2_el hf fun r22 q23 hg24 hf => ?_
          refine Runs.callV (N := B3) (W := 0) (as := [.int (0 : Int32), .int (((4 : Int32) * i11) + (2 : Int32)), .int i5]) (S' := []) d0_205 w67 w68 w69 w70 cw3 ar3 rk0_3_0 (by decide) rfl rfl (X_store_pay hg24) <| ans1 <| ?_
          refine ite_el hf (fun hc25 hf => ?_) (fun hc25 hf => ?_)
          · refine Runs.ifY (pc' := 213) d0_208 (teq hc25).1 (by decide) <| ?_
            refine Runs.aload d0_213 rfl <| Runs.iconst d0_215 ci_1 <| ?_
            refine bind_el hf fun r26 hg27 hf => ?_
            refine Runs.callV (N := B18) (W := 0) (as := [.int (1 : Int32)]) (S' := []) d0_216 w129 w130 w131 w132 cw18 ar18 rk0_18_0 (by decide) rfl rfl (X_isSuspended_pay hg27) <| ans1 <| Runs.iload d0_219 rfl <| ?_
            refine ite_el hf (fun hc28 hf => ?_) (fun hc28 hf => ?_)
            · refine Runs.icY (pc' := 226) d0_221 (teq hc28).1 (by decide) <| ?_
              refine Runs.aload d0_226 rfl <| ?_
              refine bind_el hf fun r29 hg30 hf => ?_
              refine Runs.callV (N := B12) (W := 0) (as := []) (S' := []) d0_228 w134 w105 w106 w107 cw12 ar12 rk0_12_0 (by decide) rfl rfl (X_activeTotal_pay hg30) <| ans1 <| Runs.iload d0_231 rfl <| ?_
              refine ite_el hf (fun hc31 hf => ?_) (fun hc31 hf => ?_)
              · refine Runs.ifY (pc' := 241) d0_233 (teq hc31).1 (by decide) <| ?_
                exact Runs.iload d0_241 rfl <| Runs.iload d0_243 rfl <| Runs.iadd d0_245 <| Runs.forget [false, false, false, false, false, true, true, true, true, false, false, false, true, false, true, true, false, false] rfl <| L_law_b246_p q23 i5 i7 i8 i12 i14 t0 r29 (i13 + i12) hf
              · refine Runs.ifN d0_233 (feq hc31).1 <| ?_
                exact Runs.iload d0_236 rfl <| Runs.goto (pc' := 246) d0_238 (by decide) <| Runs.forget [false, false, false, false, false, true, true, true, true, false, false, false, true, false, true, true, false, false] rfl <| L_law_b246_p q23 i5 i7 i8 i12 i14 t0 r29 i13 hf
            · refine Runs.icN d0_221 (feq hc28).1 <| ?_
              obtain rfl := Option.some.inj hf
              exact Runs.iconst d0_224 ci_0 <| Runs.retZ (y := (0 : Int32)) d0_225 rfl ⟨by decide, by decide⟩ rfl rfl
          · refine Runs.ifN d0_208 (feq hc25).1 <| ?_
            obtain rfl := Option.some.inj hf
            exact Runs.iconst d0_211 ci_0 <| Runs.retZ (y := (0 : Int32)) d0_212 rfl ⟨by decide, by decide⟩ rfl rfl
        · refine Runs.ifN d0_189 (feq hc21).1 <| ?_
          obtain rfl := Option.some.inj hf
          exact Runs.iconst d0_192 ci_0 <| Runs.retZ (y := (0 : Int32)) d0_193 rfl ⟨by decide, by decide⟩ rfl rfl
      · refine Runs.ifN d0_170 (feq hc17).1 <| ?_
        obtain rfl := Option.some.inj hf
        exact Runs.iconst d0_173 ci_0 <| Runs.retZ (y := (0 : Int32)) d0_174 rfl ⟨by decide, by decide⟩ rfl rfl
    · refine Runs.ifN d0_151 (feq hc13).1 <| ?_
      obtain rfl := Option.some.inj hf
      exact Runs.iconst d0_154 ci_0 <| Runs.retZ (y := (0 : Int32)) d0_155 rfl ⟨by decide, by decide⟩ rfl rfl
  · refine Runs.ifN d0_130 (feq hc9).1 <| ?_
    obtain rfl := Option.some.inj hf
    exact Runs.iconst d0_133 ci_0 <| Runs.retZ (y := (0 : Int32)) d0_134 rfl ⟨by decide, by decide⟩ rfl rfl
def L_law_b104 (NF : Nat) (ob : Rec) (i5 : Int32) (i7 : Int32) (i8 : Int32) (i9 : Int32) (i10 : Int32) (i11 : Int32) (i12 : Int32) (i13 : Int32) (t0 : Int32) : Option (Int32) :=
  if t0 = (0 : Int32) then
    L_law_b116 NF ob i5 i7 i8 i9 i10 i11 i12 i13 t0 (0 : Int32)
  else
    L_law_b116 NF ob i5 i7 i8 i9 i10 i11 i12 i13 t0 (1 : Int32)
set_option maxRecDepth 65536 in
set_option maxHeartbeats 4000000 in
theorem L_law_b104_p {C : Ctx} {res : Int32} {NF : Nat} (ob : Rec) (i5 : Int32) (i7 : Int32) (i8 : Int32) (i9 : Int32) (i10 : Int32) (i11 : Int32) (i12 : Int32) (i13 : Int32) (t0 : Int32) (hf : L_law_b104 NF ob i5 i7 i8 i9 i10 i11 i12 i13 t0 = some res) : Runs C B0 19 978 104 [vn, vn, vn, vn, vn, vi i5, vr C.2.2.1, vi i7, vi i8, vi i9, vi i10, vi i11, vi i12, vi i13, vn, vn, vn, vn] [.int t0] (C.2.2.1 + 1 + 18, (C.2.2.1, 18, ob) :: []) (fun v _ => v = (some (.int res))) := by
  delta L_law_b104 at hf
  refine Runs.istore (P' := [vn, vn, vn, vn, vn, vi i5, vr C.2.2.1, vi i7, vi i8, vi i9, vi i10, vi i11, vi i12, vi i13, vi t0, vn, vn, vn]) d0_104 (by decide) rfl <| Runs.iload d0_106 rfl <| ?_
  refine ite_el hf (fun hc5 hf => ?_) (fun hc5 hf => ?_)
  · refine Runs.ifY (pc' := 115) d0_108 (teq hc5).1 (by decide) <| ?_
    exact Runs.iconst d0_115 ci_0 <| L_law_b116_p ob i5 i7 i8 i9 i10 i11 i12 i13 t0 (0 : Int32) hf
  · refine Runs.ifN d0_108 (feq hc5).1 <| ?_
    exact Runs.iconst d0_111 ci_1 <| Runs.goto (pc' := 116) d0_112 (by decide) <| L_law_b116_p ob i5 i7 i8 i9 i10 i11 i12 i13 t0 (1 : Int32) hf
def L_law_b90 (NF : Nat) (ob : Rec) (i5 : Int32) (i7 : Int32) (i8 : Int32) (i9 : Int32) (i10 : Int32) (i11 : Int32) (i12 : Int32) (i13 : Int32) : Option (Int32) :=
  if (4 : Int32) < (i12 + i13) then
    L_law_b104 NF ob i5 i7 i8 i9 i10 i11 i12 i13 (1 : Int32)
  else
    L_law_b104 NF ob i5 i7 i8 i9 i10 i11 i12 i13 (0 : Int32)
set_option maxRecDepth 65536 in
set_option maxHeartbeats 4000000 in
theorem L_law_b90_p {C : Ctx} {res : Int32} {NF : Nat} (ob : Rec) (i5 : Int32) (i7 : Int32) (i8 : Int32) (i9 : Int32) (i10 : Int32) (i11 : Int32) (i12 : Int32) (i13 : Int32) (hf : L_law_b90 NF ob i5 i7 i8 i9 i10 i11 i12 i13 = some res) : Runs C B0 19 978 90 [vn, vn, vn, vn, vn, vi i5, vr C.2.2.1, vi i7, vi i8, vi i9, vi i10, vi i11, vi i12, vi i13, vn, vn, vn, vn] [] (C.2.2.1 + 1 + 18, (C.2.2.1, 18, ob) :: []) (fun v _ => v = (some (.int res))) := by
  delta L_law_b90 at hf
  refine Runs.iload d0_90 rfl <| Runs.iload d0_92 rfl <| Runs.iadd d0_94 <| Runs.iconst d0_95 ci_4 <| ?_
  refine ite_el hf (fun hc4 hf => ?_) (fun hc4 hf => ?_)
  · refine Runs.icN d0_96 (tlt hc4).2.2.2 <| ?_
    exact Runs.iconst d0_99 ci_1 <| Runs.goto (pc' := 104) d0_100 (by decide) <| L_law_b104_p ob i5 i7 i8 i9 i10 i11 i12 i13 (1 : Int32) hf
  · refine Runs.icY (pc' := 103) d0_96 (flt hc4).2.2.2 (by decide) <| ?_
    exact Runs.iconst d0_103 ci_0 <| L_law_b104_p ob i5 i7 i8 i9 i10 i11 i12 i13 (0 : Int32) hf
def L_law_b73 (NF : Nat) (ob : Rec) (i5 : Int32) (i7 : Int32) (i8 : Int32) (i9 : Int32) (i10 : Int32) (i11 : Int32) (i12 : Int32) (i13 : Int32) : Option (Int32) :=
  if i11 = i9 then
    L_law_b90 NF ob i5 i7 i8 i9 i10 i11 i12 i13
  else
    if i11 = i10 then
      L_law_b90 NF ob i5 i7 i8 i9 i10 i11 i12 i13
    else
      L_law_b90 NF ob i5 i7 i8 i9 i10 i11 i12 (i13 + (1 : Int32))
set_option maxRecDepth 65536 in
set_option maxHeartbeats 4000000 in
theorem L_law_b73_p {C : Ctx} {res : Int32} {NF : Nat} (ob : Rec) (i5 : Int32) (i7 : Int32) (i8 : Int32) (i9 : Int32) (i10 : Int32) (i11 : Int32) (i12 : Int32) (i13 : Int32) (hf : L_law_b73 NF ob i5 i7 i8 i9 i10 i11 i12 i13 = some res) : Runs C B0 19 978 73 [vn, vn, vn, vn, vn, vi i5, vr C.2.2.1, vi i7, vi i8, vi i9, vi i10, vi i11, vi i12, vi i13, vn, vn, vn, vn] [] (C.2.2.1 + 1 + 18, (C.2.2.1, 18, ob) :: []) (fun v _ => v = (some (.int res))) := by
  delta L_law_b73 at hf
  refine Runs.iload d0_73 rfl <| Runs.iload d0_75 rfl <| ?_
  refine ite_el hf (fun hc2 hf => ?_) (fun hc2 hf => ?_)
  · exact Runs.icY (pc' := 90) d0_77 (teq hc2).1 (by decide) <| L_law_b90_p ob i5 i7 i8 i9 i10 i11 i12 i13 hf
  · refine Runs.icN d0_77 (feq hc2).1 <| ?_
    refine Runs.iload d0_80 rfl <| Runs.iload d0_82 rfl <| ?_
    refine ite_el hf (fun hc3 hf => ?_) (fun hc3 hf => ?_)
    · exact Runs.icY (pc' := 90) d0_84 (teq hc3).1 (by decide) <| L_law_b90_p ob i5 i7 i8 i9 i10 i11 i12 i13 hf
    · refine Runs.icN d0_84 (feq hc3).1 <| ?_
      exact Runs.iinc (P' := [vn, vn, vn, vn, vn, vi i5, vr C.2.2.1, vi i7, vi i8, vi i9, vi i10, vi i11, vi i12, vi (i13 + (1 : Int32)), vn, vn, vn, vn]) d0_87 ci_1 rfl (by decide) rfl <| L_law_b90_p ob i5 i7 i8 i9 i10 i11 i12 (i13 + (1 : Int32)) hf
def L_law_b58 (NF : Nat) (ob : Rec) (i5 : Int32) (i7 : Int32) (i8 : Int32) (i9 : Int32) (i10 : Int32) (i11 : Int32) (t0 : Int32) : Option (Int32) :=
  if i10 = i9 then
    L_law_b73 NF ob i5 i7 i8 i9 i10 i11 t0 (1 : Int32)
  else
    L_law_b73 NF ob i5 i7 i8 i9 i10 i11 t0 ((1 : Int32) + (1 : Int32))
set_option maxRecDepth 65536 in
set_option maxHeartbeats 4000000 in
theorem L_law_b58_p {C : Ctx} {res : Int32} {NF : Nat} (ob : Rec) (i5 : Int32) (i7 : Int32) (i8 : Int32) (i9 : Int32) (i10 : Int32) (i11 : Int32) (t0 : Int32) (hf : L_law_b58 NF ob i5 i7 i8 i9 i10 i11 t0 = some res) : Runs C B0 19 978 58 [vn, vn, vn, vn, vn, vi i5, vr C.2.2.1, vi i7, vi i8, vi i9, vi i10, vi i11, vn, vn, vn, vn, vn, vn] [.int t0] (C.2.2.1 + 1 + 18, (C.2.2.1, 18, ob) :: []) (fun v _ => v = (some (.int res))) := by
  delta L_law_b58 at hf
  refine Runs.istore (P' := [vn, vn, vn, vn, vn, vi i5, vr C.2.2.1, vi i7, vi i8, vi i9, vi i10, vi i11, vi t0, vn, vn, vn, vn, vn]) d0_58 (by decide) rfl <| Runs.iconst d0_60 ci_1 <| Runs.istore (P' := [vn, vn, vn, vn, vn, vi i5, vr C.2.2.1, vi i7, vi i8, vi i9, vi i10, vi i11, vi t0, vi (1 : Int32), vn, vn, vn, vn]) d0_61 (by decide) rfl <| Runs.iload d0_63 rfl <| Runs.iload d0_65 rfl <| ?_
  refine ite_el hf (fun hc1 hf => ?_) (fun hc1 hf => ?_)
  · exact Runs.icY (pc' := 73) d0_67 (teq hc1).1 (by decide) <| L_law_b73_p ob i5 i7 i8 i9 i10 i11 t0 (1 : Int32) hf
  · refine Runs.icN d0_67 (feq hc1).1 <| ?_
    exact Runs.iinc (P' := [vn, vn, vn, vn, vn, vi i5, vr C.2.2.1, vi i7, vi i8, vi i9, vi i10, vi i11, vi t0, vi ((1 : Int32) + (1 : Int32)), vn, vn, vn, vn]) d0_70 ci_1 rfl (by decide) rfl <| L_law_b73_p ob i5 i7 i8 i9 i10 i11 t0 ((1 : Int32) + (1 : Int32)) hf
def L_law (NF : Nat) (i0 : Int32) (i1 : Int32) (i2 : Int32) (i3 : Int32) (i4 : Int32) (i5 : Int32) : Option (Int32) :=
  (X_init NF (2 : Int32) (16 : Int32) (4 : Int32) (8 : Int32)).bind fun q84 =>
  if (i0 &&& (15 : Int32)) = (i1 &&& (15 : Int32)) then
    L_law_b58 NF q84 i5 (i0 &&& (15 : Int32)) (i1 &&& (15 : Int32)) (i2 &&& (15 : Int32)) (i3 &&& (15 : Int32)) (i4 &&& (15 : Int32)) (1 : Int32)
  else
    L_law_b58 NF q84 i5 (i0 &&& (15 : Int32)) (i1 &&& (15 : Int32)) (i2 &&& (15 : Int32)) (i3 &&& (15 : Int32)) (i4 &&& (15 : Int32)) (2 : Int32)
set_option maxRecDepth 65536 in
set_option maxHeartbeats 4000000 in
theorem L_law_p {C : Ctx} {res : Int32} {NF : Nat} (i0 : Int32) (i1 : Int32) (i2 : Int32) (i3 : Int32) (i4 : Int32) (i5 : Int32) (hf : L_law NF i0 i1 i2 i3 i4 i5 = some res) : Runs C B0 0 0 0 [vi i0, vi i1, vi i2, vi i3, vi i4, vi i5, vn, vn, vn, vn, vn, vn, vn, vn, vn, vn, vn, vn] [] (C.2.2.1, []) (fun v _ => v = (some (.int res))) := by
  delta L_law at hf
  refine Runs.newK (k' := 1) (n' := 26) d0_0 w0 ⟨by decide, by decide⟩ rfl rfl (by intro x hx; cases hx) <| Runs.dup d0_3 rfl <| Runs.iconst d0_4 ci_2 <| Runs.bipush d0_5 cb_16 <| Runs.iconst d0_7 ci_4 <| Runs.bipush d0_8 cb_8 <| ?_
  refine bind_el hf fun q84 hg85 hf => ?_
  refine Runs.callI (N := B1) (k' := 19) (n' := 978) (W := 1) (as := [.int (2 : Int32), .int (16 : Int32), .int (4 : Int32), .int (8 : Int32)]) (S' := [.ref C.2.2.1]) d0_10 rfl rfl w3 w4 cw1 ar1 (by decide) rfl rfl rfl rfl (X_init_pay hg85) <| ans0 <| Runs.astore (P' := [vi i0, vi i1, vi i2, vi i3, vi i4, vi i5, vr C.2.2.1, vn, vn, vn, vn, vn, vn, vn, vn, vn, vn, vn]) d0_13 (by decide) rfl <| Runs.iloadN d0_15 rfl <| Runs.bipush d0_16 cb_15 <| Runs.iand d0_18 <| Runs.istore (P' := [vi i0, vi i1, vi i2, vi i3, vi i4, vi i5, vr C.2.2.1, vi (i0 &&& (15 : Int32)), vn, vn, vn, vn, vn, vn, vn, vn, vn, vn]) d0_19 (by decide) rfl <| Runs.iloadN d0_21 rfl <| Runs.bipush d0_22 cb_15 <| Runs.iand d0_24 <| Runs.istore (P' := [vi i0, vi i1, vi i2, vi i3, vi i4, vi i5, vr C.2.2.1, vi (i0 &&& (15 : Int32)), vi (i1 &&& (15 : Int32)), vn, vn, vn, vn, vn, vn, vn, vn, vn]) d0_25 (by decide) rfl <| Runs.iloadN d0_27 rfl <| Runs.bipush d0_28 cb_15 <| ?_
  refine Runs.iand d0_30 <| Runs.istore (P' := [vi i0, vi i1, vi i2, vi i3, vi i4, vi i5, vr C.2.2.1, vi (i0 &&& (15 : Int32)), vi (i1 &&& (15 : Int32)), vi (i2 &&& (15 : Int32)), vn, vn, vn, vn, vn, vn, vn, vn]) d0_31 (by decide) rfl <| Runs.iloadN d0_33 rfl <| Runs.bipush d0_34 cb_15 <| Runs.iand d0_36 <| Runs.istore (P' := [vi i0, vi i1, vi i2, vi i3, vi i4, vi i5, vr C.2.2.1, vi (i0 &&& (15 : Int32)), vi (i1 &&& (15 : Int32)), vi (i2 &&& (15 : Int32)), vi (i3 &&& (15 : Int32)), vn, vn, vn, vn, vn, vn, vn]) d0_37 (by decide) rfl <| Runs.iload d0_39 rfl <| Runs.bipush d0_41 cb_15 <| Runs.iand d0_43 <| Runs.istore (P' := [vi i0, vi i1, vi i2, vi i3, vi i4, vi i5, vr C.2.2.1, vi (i0 &&& (15 : Int32)), vi (i1 &&& (15 : Int32)), vi (i2 &&& (15 : Int32)), vi (i3 &&& (15 : Int32)), vi (i4 &&& (15 : Int32)), vn, vn, vn, vn, vn, vn]) d0_44 (by decide) rfl <| Runs.iload d0_46 rfl <| Runs.iload d0_48 rfl <| ?_
  refine ite_el hf (fun hc86 hf => ?_) (fun hc86 hf => ?_)
  · refine Runs.icN d0_50 (teq hc86).2 <| ?_
    exact Runs.iconst d0_53 ci_1 <| Runs.goto (pc' := 58) d0_54 (by decide) <| Runs.forget [false, false, false, false, false, true, true, true, true, true, true, true, false, false, false, false, false, false] rfl <| L_law_b58_p q84 i5 (i0 &&& (15 : Int32)) (i1 &&& (15 : Int32)) (i2 &&& (15 : Int32)) (i3 &&& (15 : Int32)) (i4 &&& (15 : Int32)) (1 : Int32) hf
  · refine Runs.icY (pc' := 57) d0_50 (feq hc86).2 (by decide) <| ?_
    exact Runs.iconst d0_57 ci_2 <| Runs.forget [false, false, false, false, false, true, true, true, true, true, true, true, false, false, false, false, false, false] rfl <| L_law_b58_p q84 i5 (i0 &&& (15 : Int32)) (i1 &&& (15 : Int32)) (i2 &&& (15 : Int32)) (i3 &&& (15 : Int32)) (i4 &&& (15 : Int32)) (2 : Int32) hf
theorem L_law_pay {C : Ctx} {res : Int32} {NF : Nat} {i0 : Int32} {i1 : Int32} {i2 : Int32} {i3 : Int32} {i4 : Int32} {i5 : Int32} (hf : L_law NF i0 i1 i2 i3 i4 i5 = some res) : Pays C B0 [.int i0, .int i1, .int i2, .int i3, .int i4, .int i5] (C.2.2.1, []) (fun v _ => v = (some (.int res))) :=
  Pays.of pnL (Nat.le_of_ble_eq_true rfl) (P := [vi i0, vi i1, vi i2, vi i3, vi i4, vi i5, vn, vn, vn, vn, vn, vn, vn, vn, vn, vn, vn, vn]) 12 rfl (L_law_p i0 i1 i2 i3 i4 i5 hf)
--OWED--
theorem gI_sI (ob : Rec) (k j : Nat) (v : Int32) : gI (sI ob k v) j = if j = k then v else gI ob j := rfl
theorem gI_sA (ob : Rec) (k j : Nat) (i v : Int32) : gI (sA ob k i v) j = gI ob j := rfl
theorem gI_sJ (ob : Rec) (k j : Nat) (i : Int32) (v : Int64) : gI (sJ ob k i v) j = gI ob j := rfl
theorem gA_sI (ob : Rec) (k j : Nat) (v x : Int32) : gA (sI ob k v) j x = gA ob j x := rfl
theorem gA_sA (ob : Rec) (k j : Nat) (i v x : Int32) : gA (sA ob k i v) j x = if j = k ∧ x = i then v else gA ob j x := rfl
theorem gA_sJ (ob : Rec) (k j : Nat) (i x : Int32) (v : Int64) : gA (sJ ob k i v) j x = gA ob j x := rfl
theorem gJ_sI (ob : Rec) (k j : Nat) (v x : Int32) : gJ (sI ob k v) j x = gJ ob j x := rfl
theorem gJ_sA (ob : Rec) (k j : Nat) (i v x : Int32) : gJ (sA ob k i v) j x = gJ ob j x := rfl
theorem gJ_sJ (ob : Rec) (k j : Nat) (i x : Int32) (v : Int64) : gJ (sJ ob k i v) j x = if j = k ∧ x = i then v else gJ ob j x := rfl
theorem gI_z (k : Nat) : gI zrec k = 0 := rfl
theorem gA_z (k : Nat) (i : Int32) : gA zrec k i = 0 := rfl
theorem gJ_z (k : Nat) (i : Int32) : gJ zrec k i = 0 := rfl
theorem chk_ok {γ : Type} {n i : Int32} {A : Option γ} (h : 0 ≤ i.toInt ∧ i.toInt < n.toInt) : chk n i A = A := by
  have h0 : ¬ i < 0 := by rw [Int32.lt_iff_toInt_lt]; show ¬ i.toInt < 0; omega
  have h1 : i < n := by rw [Int32.lt_iff_toInt_lt]; exact h.2
  unfold chk; rw [if_neg h0, if_pos h1]
theorem lt_i {x y : Int32} : x < y ↔ x.toInt < y.toInt := Int32.lt_iff_toInt_lt
theorem le_i {x y : Int32} : x ≤ y ↔ x.toInt ≤ y.toInt := Int32.le_iff_toInt_le
theorem eq_i32 {x y : Int32} : x = y ↔ x.toInt = y.toInt := Int32.toInt_inj.symm
theorem bm_id {n : Int} (h : -2147483648 ≤ n ∧ n < 2147483648) : n.bmod (2 ^ 32) = n := Int.bmod_eq_of_le (by omega) (by omega)
theorem ad {x y : Int32} (h : -2147483648 ≤ x.toInt + y.toInt ∧ x.toInt + y.toInt < 2147483648) : (x + y).toInt = x.toInt + y.toInt := by rw [Int32.toInt_add, bm_id h]
theorem sb {x y : Int32} (h : -2147483648 ≤ x.toInt - y.toInt ∧ x.toInt - y.toInt < 2147483648) : (x - y).toInt = x.toInt - y.toInt := by rw [Int32.toInt_sub, bm_id h]
theorem ml {x y : Int32} (h : -2147483648 ≤ x.toInt * y.toInt ∧ x.toInt * y.toInt < 2147483648) : (x * y).toInt = x.toInt * y.toInt := by rw [Int32.toInt_mul, bm_id h]
theorem bind2_some {α β γ : Type} (a : α) (b : β) (f : α → β → Option γ) : bind2 (some (a, b)) f = f a b := rfl
theorem and_b (x m : Int32) (k : Nat) (hm : m.toBitVec.toNat = k) (hk : k < 2147483648) : 0 ≤ (x &&& m).toInt ∧ (x &&& m).toInt ≤ (k : Int) := by
  have h1 : (x &&& m).toBitVec.toNat = x.toBitVec.toNat &&& m.toBitVec.toNat := by rw [Int32.toBitVec_and, BitVec.toNat_and]
  have h2 : (x &&& m).toBitVec.toNat ≤ k := by rw [h1, hm]; exact Nat.and_le_right
  have h3 : (x &&& m).toInt = ((x &&& m).toBitVec.toNat : Int) := by
    show (x &&& m).toBitVec.toInt = _
    exact BitVec.toInt_eq_toNat_of_lt (by omega)
  rw [h3]; omega
theorem mem8 (x : Int32) : (x &&& 7) ∈ ([0, 1, 2, 3, 4, 5, 6, 7] : List Int32) := by
  have h := and_b x 7 7 rfl (by omega)
  simp only [List.mem_cons, eq_i32, Int32.reduceToInt, List.not_mem_nil, or_false]
  omega
theorem mem2 (x : Int32) : (x &&& 1) ∈ ([0, 1] : List Int32) := by
  have h := and_b x 1 1 rfl (by omega)
  simp only [List.mem_cons, eq_i32, Int32.reduceToInt, List.not_mem_nil, or_false]
  omega
theorem dv {x y : Int32} (hx : 0 ≤ x.toInt) (hy : 0 < y.toInt) : (x / y).toInt = x.toInt / y.toInt := by
  rw [Int32.toInt_div, Int.tdiv_eq_ediv_of_nonneg hx]
  have h1 : x.toInt / y.toInt ≤ x.toInt := Int.ediv_le_self _ hx
  have h2 : 0 ≤ x.toInt / y.toInt := Int.ediv_nonneg hx (by omega)
  have h3 := x.toInt_lt
  exact Int.bmod_eq_of_le (by omega) (by omega)
theorem md {x y : Int32} (hx : 0 ≤ x.toInt) (_ : 0 < y.toInt) : (x % y).toInt = x.toInt % y.toInt := by
  rw [Int32.toInt_mod, Int.tmod_eq_emod_of_nonneg hx]
def n32 (n : Nat) : Int32 := Int32.ofInt (n : Int)
theorem nt (n : Nat) (h : n < 100000) : (n32 n).toInt = n := by
  unfold n32; rw [Int32.toInt_ofInt]; exact bm_id (by omega)
theorem n32_t (x : Int32) (h : 0 ≤ x.toInt) : n32 x.toInt.toNat = x := by
  unfold n32; rw [Int.toNat_of_nonneg h, Int32.ofInt_toInt]
def cN (f : Nat → Bool) : Nat → Nat
  | 0 => 0
  | n + 1 => cN f n + (if f n then 1 else 0)
theorem cN_le {f g : Nat → Bool} : ∀ n, (∀ i, i < n → f i = true → g i = true) → cN f n ≤ cN g n
  | 0, _ => Nat.le_refl 0
  | n + 1, h => by
    have h1 := cN_le n (fun i hi => h i (by omega))
    have h2 := h n (by omega)
    show cN f n + _ ≤ cN g n + _
    cases hf : f n
    · simp; omega
    · rw [h2 hf]; simp; omega
theorem cN_eq {f g : Nat → Bool} (n : Nat) (h : ∀ i, i < n → f i = g i) : cN f n = cN g n :=
  Nat.le_antisymm (cN_le n (fun i hi e => (h i hi) ▸ e)) (cN_le n (fun i hi e => (h i hi).symm ▸ e))
theorem cN_set {f g : Nat → Bool} {j : Nat} (fj : f j = false) (gj : g j = true) : ∀ n, j < n → (∀ i, i < n → i ≠ j → g i = f i) → cN g n = cN f n + 1
  | 0, h, _ => absurd h (by omega)
  | n + 1, h, e => by
    show cN g n + _ = cN f n + _ + 1
    by_cases c : j = n
    · subst c
      rw [cN_eq j (fun i hi => e i (by omega) (by omega)), fj, gj]; simp
    · rw [cN_set fj gj n (by omega) (fun i hi => e i (by omega)), e n (by omega) (fun h => c h.symm)]; omega
theorem cN_lt {f g : Nat → Bool} {j : Nat} (n : Nat) (hj : j < n) (fj : f j = false) (gj : g j = true) (h : ∀ i, i < n → f i = true → g i = true) : cN f n + 1 ≤ cN g n := by
  have := cN_set (f := f) (g := fun i => if i = j then true else f i) fj (by simp) n hj (fun i _ c => by simp [c])
  rw [← this]
  apply cN_le
  intro i hi e
  by_cases c : i = j
  · rw [c]; exact gj
  · simp only [c, if_false] at e; exact h i hi e
theorem cN_full {f : Nat → Bool} : ∀ n m, m ≤ n → (∀ i, i < m → f i = true) → m ≤ cN f n
  | 0, m, h, _ => by omega
  | n + 1, m, h, e => by
    show m ≤ cN f n + _
    by_cases c : m ≤ n
    · have := cN_full n m c e; omega
    · have := cN_full n n (Nat.le_refl n) (fun i hi => e i (by omega))
      rw [e n (by omega)]; simp; omega
abbrev In (n : Int) (x : Int32) : Prop := 0 ≤ x.toInt ∧ x.toInt < n
abbrev VI (P N x : Int32) : Prop := In 64 x ∧ x.toInt / 16 < P.toInt ∧ x.toInt % 16 < N.toInt
set_option maxHeartbeats 0 in
theorem cN_vi0 : ∀ p : Fin 5, ∀ n : Fin 17, cN (fun i => decide (i / 16 < p.val ∧ i % 16 < n.val)) 64 = p.val * n.val := by decide +kernel
def ct (pf ps fw sw : Int32 → Int32) (x w : Int32) : Int32 :=
  if pf x < 0 then (if ps x < 0 then 0 else sw (ps x * 4 + w)) else fw (pf x * 4 + w)
abbrev PM (P N F H : Int32) (pf ps fo fd fw su sw : Int32 → Int32) : Prop := (1 ≤ P.toInt ∧ P.toInt ≤ 4) ∧ (4 ≤ N.toInt ∧ N.toInt ≤ 16) ∧ (4 ≤ F.toInt ∧ F.toInt ≤ 32) ∧ (In F.toInt H) ∧ (∀ f, In F.toInt f → 0 ≤ (fo f).toInt → VI P N (fo f) ∧ pf (fo f) = f) ∧ (∀ x, In 64 x → 0 ≤ (pf x).toInt → In F.toInt (pf x) ∧ fo (pf x) = x) ∧ (∀ x, In 64 x → 0 ≤ (ps x).toInt → VI P N x ∧ In 64 (ps x) ∧ ¬ su (ps x) = 0) ∧ (∀ x y, In 64 x → In 64 y → 0 ≤ (ps x).toInt → ps x = ps y → x = y) ∧ (cN (fun i => decide (¬ su (n32 i) = 0)) 64 = cN (fun i => decide (0 ≤ (ps (n32 i)).toInt)) 64) ∧ (∀ f, In F.toInt f → 0 ≤ (fo f).toInt → fd f = 0 → ∀ w, In 4 w → fw (f * 4 + w) = (if ps (fo f) < 0 then 0 else sw (ps (fo f) * 4 + w)))
theorem PM.hP {P N F H : Int32} {pf ps fo fd fw su sw : Int32 → Int32} (h : PM P N F H pf ps fo fd fw su sw) : 1 ≤ P.toInt ∧ P.toInt ≤ 4 := h.1
theorem PM.hN {P N F H : Int32} {pf ps fo fd fw su sw : Int32 → Int32} (h : PM P N F H pf ps fo fd fw su sw) : 4 ≤ N.toInt ∧ N.toInt ≤ 16 := h.2.1
theorem PM.hF {P N F H : Int32} {pf ps fo fd fw su sw : Int32 → Int32} (h : PM P N F H pf ps fo fd fw su sw) : 4 ≤ F.toInt ∧ F.toInt ≤ 32 := h.2.2.1
theorem PM.hH {P N F H : Int32} {pf ps fo fd fw su sw : Int32 → Int32} (h : PM P N F H pf ps fo fd fw su sw) : In F.toInt H := h.2.2.2.1
theorem PM.own {P N F H : Int32} {pf ps fo fd fw su sw : Int32 → Int32} (h : PM P N F H pf ps fo fd fw su sw) : ∀ f, In F.toInt f → 0 ≤ (fo f).toInt → VI P N (fo f) ∧ pf (fo f) = f := h.2.2.2.2.1
theorem PM.frm {P N F H : Int32} {pf ps fo fd fw su sw : Int32 → Int32} (h : PM P N F H pf ps fo fd fw su sw) : ∀ x, In 64 x → 0 ≤ (pf x).toInt → In F.toInt (pf x) ∧ fo (pf x) = x := h.2.2.2.2.2.1
theorem PM.slt {P N F H : Int32} {pf ps fo fd fw su sw : Int32 → Int32} (h : PM P N F H pf ps fo fd fw su sw) : ∀ x, In 64 x → 0 ≤ (ps x).toInt → VI P N x ∧ In 64 (ps x) ∧ ¬ su (ps x) = 0 := h.2.2.2.2.2.2.1
theorem PM.inj {P N F H : Int32} {pf ps fo fd fw su sw : Int32 → Int32} (h : PM P N F H pf ps fo fd fw su sw) : ∀ x y, In 64 x → In 64 y → 0 ≤ (ps x).toInt → ps x = ps y → x = y := h.2.2.2.2.2.2.2.1
theorem PM.cnt {P N F H : Int32} {pf ps fo fd fw su sw : Int32 → Int32} (h : PM P N F H pf ps fo fd fw su sw) : cN (fun i => decide (¬ su (n32 i) = 0)) 64 = cN (fun i => decide (0 ≤ (ps (n32 i)).toInt)) 64 := h.2.2.2.2.2.2.2.2.1
theorem PM.cln {P N F H : Int32} {pf ps fo fd fw su sw : Int32 → Int32} (h : PM P N F H pf ps fo fd fw su sw) : ∀ f, In F.toInt f → 0 ≤ (fo f).toInt → fd f = 0 → ∀ w, In 4 w → fw (f * 4 + w) = (if ps (fo f) < 0 then 0 else sw (ps (fo f) * 4 + w)) := h.2.2.2.2.2.2.2.2.2
theorem neg_i {x : Int32} : x < 0 ↔ x.toInt < 0 := by rw [lt_i]; exact Iff.rfl
theorem nneg {x : Int32} (h : 0 ≤ x.toInt) : ¬ x < 0 := by rw [neg_i]; omega
theorem nneg' {x : Int32} (h : ¬ x < 0) : 0 ≤ x.toInt := by rw [neg_i] at h; omega
/-- a page without a slot: a slot is free -/
theorem PM_free {P N F H : Int32} {pf ps fo fd fw su sw : Int32 → Int32} (h : PM P N F H pf ps fo fd fw su sw) {x : Int32} (hx : VI P N x) (hs : ps x < 0) (hall : ∀ s : Int32, In (P.toInt * N.toInt) s → ¬ su s = 0) : False := by
  have h1 : cN (fun i => decide (0 ≤ (ps (n32 i)).toInt)) 64 + 1 ≤ cN (fun i => decide (i / 16 < P.toInt.toNat ∧ i % 16 < N.toInt.toNat)) 64 := by
    have hP := h.hP
    have hN := h.hN
    refine cN_lt (j := x.toInt.toNat) 64 (by omega) ?_ ?_ ?_
    · rw [n32_t x hx.1.1]; simp only [decide_eq_false_iff_not]; rw [neg_i] at hs; omega
    · simp only [decide_eq_true_eq]; have := hx.2; omega
    · intro i hi e
      simp only [decide_eq_true_eq] at e ⊢
      have := h.slt (n32 i) ⟨by rw [nt i (by omega)]; omega, by rw [nt i (by omega)]; omega⟩ e
      have := this.1.2
      rw [nt i (by omega)] at this; omega
  have hP := h.hP
  have hN := h.hN
  have h2 := cN_vi0 ⟨P.toInt.toNat, by omega⟩ ⟨N.toInt.toNat, by omega⟩
  rw [h2, ← h.cnt] at h1
  have h4 : P.toInt.toNat * N.toInt.toNat ≤ 64 := Nat.le_trans (Nat.mul_le_mul (show P.toInt.toNat ≤ 4 by omega) (show N.toInt.toNat ≤ 16 by omega)) (by omega)
  have h5 : ((P.toInt.toNat * N.toInt.toNat : Nat) : Int) = P.toInt * N.toInt := by rw [Int.natCast_mul, Int.toNat_of_nonneg (by omega), Int.toNat_of_nonneg (by omega)]
  have h3 : P.toInt.toNat * N.toInt.toNat ≤ cN (fun i => decide (¬ su (n32 i) = 0)) 64 := by
    refine cN_full 64 _ h4 ?_
    intro i hi
    simp only [decide_eq_true_eq]
    refine hall _ ⟨by rw [nt i (by omega)]; omega, by rw [nt i (by omega), ← h5]; omega⟩
  simp only at h1 h3
  omega
/-- write back of frame f, of page x, to slot s -/
theorem PM_wb {P N F H : Int32} {pf ps fo fd fw su sw ps' fd' su' sw' : Int32 → Int32} (h : PM P N F H pf ps fo fd fw su sw) {f x s : Int32} (hf : In F.toInt f) (hx : fo f = x) (hx0 : 0 ≤ x.toInt) (hs : In 64 s)
    (ho : ps x = s ∨ (ps x < 0 ∧ su s = 0)) (p1 : ps' x = s) (p2 : ∀ y, ¬ y = x → ps' y = ps y) (u1 : ¬ su' s = 0) (u2 : ∀ y, ¬ y = s → su' y = su y)
    (d1 : fd' f = 0) (d2 : ∀ y, ¬ y = f → fd' y = fd y)
    (w1 : ∀ w, In 4 w → sw' (s * 4 + w) = fw (f * 4 + w)) (w2 : ∀ t w, In 64 t → In 4 w → ¬ t = s → sw' (t * 4 + w) = sw (t * 4 + w)) :
    PM P N F H pf ps' fo fd' fw su' sw' ∧ ∀ y w, In 64 y → In 4 w → ct pf ps' fw sw' y w = ct pf ps fw sw y w := by
  have ox := h.own f hf (by rw [hx]; exact hx0)
  rw [hx] at ox
  have ns : ∀ y, In 64 y → ¬ y = x → 0 ≤ (ps y).toInt → ¬ ps y = s := by
    intro y hy c h0 e
    rcases ho with ho | ho
    · exact c (h.inj y x hy ox.1.1 h0 (e.trans ho.symm))
    · exact (h.slt y hy h0).2.2 (e ▸ ho.2)
  refine ⟨⟨h.hP, h.hN, h.hF, h.hH, h.own, h.frm, ?_, ?_, ?_, ?_⟩, ?_⟩
  · intro y hy h0
    by_cases c : y = x
    · rw [c, p1]; exact ⟨ox.1, hs, u1⟩
    · rw [p2 y c] at h0 ⊢
      have a := h.slt y hy h0
      exact ⟨a.1, a.2.1, by rw [u2 _ (ns y hy c h0)]; exact a.2.2⟩
  · intro y z hy hz h0 e
    by_cases c : y = x
    · by_cases d : z = x
      · rw [c, d]
      · rw [c, p1, p2 z d] at e
        exact absurd e.symm (ns z hz d (by rw [← e]; exact hs.1))
    · by_cases d : z = x
      · rw [d, p1, p2 y c] at e
        exact absurd e (ns y hy c (by rw [e]; exact hs.1))
      · rw [p2 y c] at h0 e; rw [p2 z d] at e
        exact h.inj y z hy hz h0 e
  · rcases ho with ho | ho
    · have e1 : ps' = ps := by
        funext y
        by_cases c : y = x
        · rw [c, p1, ho]
        · exact p2 y c
      rw [e1, ← h.cnt]
      apply cN_eq
      intro i hi
      by_cases c : n32 i = s
      · have a := h.slt x ox.1.1 (by rw [ho]; exact hs.1)
        rw [ho] at a
        rw [c]; simp [u1, a.2.2]
      · rw [u2 _ c]
    · have a1 : cN (fun i => decide (¬ su' (n32 i) = 0)) 64 = cN (fun i => decide (¬ su (n32 i) = 0)) 64 + 1 := by
        refine cN_set (j := s.toInt.toNat) ?_ ?_ 64 (by omega) ?_
        · rw [n32_t s hs.1]; simp [ho.2]
        · rw [n32_t s hs.1]; simp [u1]
        · intro i hi ne
          rw [u2 (n32 i) (fun e => ne (by rw [← e, nt i (by omega)]; omega))]
      have a2 : cN (fun i => decide (0 ≤ (ps' (n32 i)).toInt)) 64 = cN (fun i => decide (0 ≤ (ps (n32 i)).toInt)) 64 + 1 := by
        refine cN_set (j := x.toInt.toNat) ?_ ?_ 64 (by have := ox.1.1; omega) ?_
        · rw [n32_t x hx0]; have := neg_i.mp ho.1; simp; omega
        · rw [n32_t x hx0, p1]; simp; omega
        · intro i hi ne
          rw [p2 (n32 i) (fun e => ne (by rw [← e, nt i (by omega)]; omega))]
      rw [a1, a2, h.cnt]
  · intro g hg h0 hd w hw
    by_cases c : g = f
    · rw [c, hx, p1, if_neg (nneg hs.1), w1 w hw]
    · rw [d2 g c] at hd
      have ne : ¬ fo g = x := fun e => c (by rw [← (h.own g hg h0).2, e, ox.2])
      have a := h.cln g hg h0 hd w hw
      rw [p2 _ ne, a]
      by_cases n : ps (fo g) < 0
      · rw [if_pos n, if_pos n]
      · rw [if_neg n, if_neg n, w2 _ w (h.slt _ (h.own g hg h0).1.1 (nneg' n)).2.1 hw (ns _ (h.own g hg h0).1.1 ne (nneg' n))]
  · intro y w hy hw
    unfold ct
    by_cases n : pf y < 0
    · have ne : ¬ y = x := fun e => by rw [e, ox.2] at n; exact nneg hf.1 n
      rw [if_pos n, if_pos n, p2 y ne]
      by_cases m : ps y < 0
      · rw [if_pos m, if_pos m]
      · rw [if_neg m, if_neg m, w2 _ w (h.slt y hy (nneg' m)).2.1 hw (ns y hy ne (nneg' m))]
    · rw [if_neg n, if_neg n]
/-- a clean frame given up -/
theorem PM_ev {P N F H : Int32} {pf ps fo fd fw su sw pf' fo' fd' : Int32 → Int32} (h : PM P N F H pf ps fo fd fw su sw) {f x : Int32} (hf : In F.toInt f) (hx : fo f = x) (hx0 : 0 ≤ x.toInt) (hc : fd f = 0)
    (p1 : pf' x = -1) (p2 : ∀ y, ¬ y = x → pf' y = pf y) (o1 : fo' f = -1) (o2 : ∀ y, ¬ y = f → fo' y = fo y) (d2 : ∀ y, ¬ y = f → fd' y = fd y) :
    PM P N F H pf' ps fo' fd' fw su sw ∧ ∀ y w, In 64 y → In 4 w → ct pf' ps fw sw y w = ct pf ps fw sw y w := by
  have ox := h.own f hf (by rw [hx]; exact hx0)
  rw [hx] at ox
  have m1 : ¬ (0 : Int) ≤ (-1 : Int32).toInt := by decide
  refine ⟨⟨h.hP, h.hN, h.hF, h.hH, ?_, ?_, h.slt, h.inj, h.cnt, ?_⟩, ?_⟩
  · intro g hg h0
    by_cases c : g = f
    · rw [c, o1] at h0; exact absurd h0 m1
    · rw [o2 g c] at h0 ⊢
      have a := h.own g hg h0
      exact ⟨a.1, by rw [p2 _ (fun e => c (by rw [← a.2, e, ox.2]))]; exact a.2⟩
  · intro y hy h0
    by_cases c : y = x
    · rw [c, p1] at h0; exact absurd h0 m1
    · rw [p2 y c] at h0 ⊢
      have a := h.frm y hy h0
      exact ⟨a.1, by rw [o2 _ (fun e => c (by rw [← a.2, e, hx]))]; exact a.2⟩
  · intro g hg h0 hd w hw
    by_cases c : g = f
    · rw [c, o1] at h0; exact absurd h0 m1
    · rw [o2 g c] at h0 ⊢; rw [d2 g c] at hd; exact h.cln g hg h0 hd w hw
  · intro y w hy hw
    unfold ct
    by_cases c : y = x
    · rw [c, p1, if_pos (by decide), ox.2, if_neg (nneg hf.1), h.cln f hf (by rw [hx]; exact hx0) hc w hw, hx]
    · rw [p2 y c]
/-- a page brought into a free frame -/
theorem PM_fill {P N F H : Int32} {pf ps fo fd fw su sw pf' fo' fd' fw' : Int32 → Int32} (h : PM P N F H pf ps fo fd fw su sw) {f x : Int32} (hf : In F.toInt f) (hv : VI P N x) (hfr : fo f < 0) (hn : pf x < 0)
    (p1 : pf' x = f) (p2 : ∀ y, ¬ y = x → pf' y = pf y) (o1 : fo' f = x) (o2 : ∀ y, ¬ y = f → fo' y = fo y) (d2 : ∀ y, ¬ y = f → fd' y = fd y)
    (w1 : ∀ w, In 4 w → fw' (f * 4 + w) = (if ps x < 0 then 0 else sw (ps x * 4 + w))) (w2 : ∀ g w, In 32 g → In 4 w → ¬ g = f → fw' (g * 4 + w) = fw (g * 4 + w)) :
    PM P N F H pf' ps fo' fd' fw' su sw ∧ ∀ y w, In 64 y → In 4 w → ct pf' ps fw' sw y w = ct pf ps fw sw y w := by
  have nf : ∀ y, In 64 y → 0 ≤ (pf y).toInt → ¬ pf y = f := fun y hy h0 e => by
    have a := (h.frm y hy h0).2
    rw [e] at a
    rw [a] at hfr; exact nneg hy.1 hfr
  have hF := h.hF
  refine ⟨⟨h.hP, h.hN, h.hF, h.hH, ?_, ?_, h.slt, h.inj, h.cnt, ?_⟩, ?_⟩
  · intro g hg h0
    by_cases c : g = f
    · rw [c, o1, p1]; exact ⟨hv, rfl⟩
    · rw [o2 g c] at h0 ⊢
      have a := h.own g hg h0
      exact ⟨a.1, by rw [p2 _ (fun e => by rw [e] at a; rw [a.2] at hn; exact nneg hg.1 hn)]; exact a.2⟩
  · intro y hy h0
    by_cases c : y = x
    · rw [c, p1]; exact ⟨hf, o1⟩
    · rw [p2 y c] at h0 ⊢
      have a := h.frm y hy h0
      exact ⟨a.1, by rw [o2 _ (nf y hy h0)]; exact a.2⟩
  · intro g hg h0 hd w hw
    by_cases c : g = f
    · rw [c, o1, w1 w hw]
    · rw [o2 g c] at h0 ⊢; rw [d2 g c] at hd
      rw [w2 g w ⟨hg.1, by omega⟩ hw c]; exact h.cln g hg h0 hd w hw
  · intro y w hy hw
    unfold ct
    by_cases c : y = x
    · rw [c, p1, if_neg (nneg hf.1), if_pos hn, w1 w hw]
    · rw [p2 y c]
      by_cases n : pf y < 0
      · rw [if_pos n, if_pos n]
      · rw [if_neg n, if_neg n]
        have a := (h.frm y hy (nneg' n)).1
        exact w2 _ w ⟨a.1, by omega⟩ hw (nf y hy (nneg' n))
/-- a word stored -/
theorem PM_st {P N F H : Int32} {pf ps fo fd fw su sw fd' fw' : Int32 → Int32} (h : PM P N F H pf ps fo fd fw su sw) {f x o v : Int32} (hx : In 64 x) (hp : pf x = f) (hf : 0 ≤ f.toInt)
    (d1 : ¬ fd' f = 0) (d2 : ∀ y, ¬ y = f → fd' y = fd y)
    (w2 : ∀ g w, In 32 g → In 4 w → fw' (g * 4 + w) = if g = f ∧ w = o then v else fw (g * 4 + w)) :
    PM P N F H pf ps fo fd' fw' su sw ∧ ∀ y w, In 64 y → In 4 w → ct pf ps fw' sw y w = if y = x ∧ w = o then v else ct pf ps fw sw y w := by
  have hF := h.hF
  refine ⟨⟨h.hP, h.hN, h.hF, h.hH, h.own, h.frm, h.slt, h.inj, h.cnt, ?_⟩, ?_⟩
  · intro g hg h0 hd w hw
    by_cases c : g = f
    · rw [c] at hd; exact absurd hd d1
    · rw [d2 g c] at hd
      rw [w2 g w ⟨hg.1, by omega⟩ hw, if_neg (fun e => c e.1)]; exact h.cln g hg h0 hd w hw
  · intro y w hy hw
    unfold ct
    by_cases n : pf y < 0
    · have ne : ¬ y = x := fun e => by rw [e, hp] at n; exact nneg hf n
      rw [if_pos n, if_pos n, if_neg (show ¬ (y = x ∧ w = o) from fun e => ne e.1)]
    · rw [if_neg n, if_neg n]
      have a := h.frm y hy (nneg' n)
      rw [w2 _ w ⟨a.1.1, by omega⟩ hw]
      by_cases c : y = x
      · rw [c, hp]
        by_cases d : w = o
        · rw [if_pos ⟨rfl, d⟩, if_pos ⟨rfl, d⟩]
        · rw [if_neg (fun e => d e.2), if_neg (fun e => d e.2)]
      · have b := (h.frm x hx (by rw [hp]; exact hf)).2
        rw [if_neg (fun e => c (by rw [← a.2, e.1, ← hp, b])), if_neg (fun e => c e.1)]
/-- a page dropped -/
theorem PM_dis {P N F H : Int32} {pf ps fo fd fw su sw pf' ps' fo' fd' su' : Int32 → Int32} (h : PM P N F H pf ps fo fd fw su sw) {x : Int32} (hx : In 64 x)
    (p1 : pf' x < 0) (p2 : ∀ y, ¬ y = x → pf' y = pf y) (q1 : ps' x < 0) (q2 : ∀ y, ¬ y = x → ps' y = ps y)
    (o1 : 0 ≤ (pf x).toInt → fo' (pf x) = -1) (o2 : ∀ y, (0 ≤ (pf x).toInt → ¬ y = pf x) → fo' y = fo y) (d2 : ∀ y, (0 ≤ (pf x).toInt → ¬ y = pf x) → fd' y = fd y)
    (u1 : 0 ≤ (ps x).toInt → su' (ps x) = 0) (u2 : ∀ y, (0 ≤ (ps x).toInt → ¬ y = ps x) → su' y = su y) :
    PM P N F H pf' ps' fo' fd' fw su' sw ∧ ∀ y w, In 64 y → In 4 w → ct pf' ps' fw sw y w = if y = x then 0 else ct pf ps fw sw y w := by
  have m1 : ¬ (0 : Int) ≤ (-1 : Int32).toInt := by decide
  refine ⟨⟨h.hP, h.hN, h.hF, h.hH, ?_, ?_, ?_, ?_, ?_, ?_⟩, ?_⟩
  · intro g hg h0
    have c : 0 ≤ (pf x).toInt → ¬ g = pf x := fun a e => by rw [e, o1 a] at h0; exact m1 h0
    rw [o2 g c] at h0 ⊢
    have a := h.own g hg h0
    have ne : ¬ fo g = x := fun e => by rw [e] at a; exact c (by rw [a.2]; exact hg.1) a.2.symm
    exact ⟨a.1, by rw [p2 _ ne]; exact a.2⟩
  · intro y hy h0
    have c : ¬ y = x := fun e => by rw [e] at h0; exact nneg h0 p1
    rw [p2 y c] at h0 ⊢
    have a := h.frm y hy h0
    exact ⟨a.1, by rw [o2 _ (fun b e => c (by rw [← a.2, e, (h.frm x hx b).2]))]; exact a.2⟩
  · intro y hy h0
    have c : ¬ y = x := fun e => by rw [e] at h0; exact nneg h0 q1
    rw [q2 y c] at h0 ⊢
    have a := h.slt y hy h0
    exact ⟨a.1, a.2.1, by rw [u2 _ (fun b e => c (h.inj y x hy hx h0 e))]; exact a.2.2⟩
  · intro y z hy hz h0 e
    have c : ¬ y = x := fun e => by rw [e] at h0; exact nneg h0 q1
    have d : ¬ z = x := fun f => by rw [f] at e; rw [e] at h0; exact nneg h0 q1
    rw [q2 y c] at h0 e; rw [q2 z d] at e
    exact h.inj y z hy hz h0 e
  · by_cases b : 0 ≤ (ps x).toInt
    · have sx := h.slt x hx b
      have a1 : cN (fun i => decide (¬ su (n32 i) = 0)) 64 = cN (fun i => decide (¬ su' (n32 i) = 0)) 64 + 1 := by
        refine cN_set (j := (ps x).toInt.toNat) ?_ ?_ 64 (by have := sx.2.1; omega) ?_
        · rw [n32_t _ b, u1 b]; simp
        · rw [n32_t _ b]; simp [sx.2.2]
        · intro i hi ne
          rw [u2 (n32 i) (fun _ e => ne (by rw [← e, nt i (by omega)]; omega))]
      have a2 : cN (fun i => decide (0 ≤ (ps (n32 i)).toInt)) 64 = cN (fun i => decide (0 ≤ (ps' (n32 i)).toInt)) 64 + 1 := by
        refine cN_set (j := x.toInt.toNat) ?_ ?_ 64 (by omega) ?_
        · rw [n32_t x hx.1]; have := neg_i.mp q1; simp; omega
        · rw [n32_t x hx.1]; simp; omega
        · intro i hi ne
          rw [q2 (n32 i) (fun e => ne (by rw [← e, nt i (by omega)]; omega))]
      have := h.cnt; omega
    · have e1 : cN (fun i => decide (¬ su' (n32 i) = 0)) 64 = cN (fun i => decide (¬ su (n32 i) = 0)) 64 := cN_eq 64 (fun i hi => by rw [u2 _ (fun a => absurd a b)])
      rw [e1, h.cnt]
      apply cN_eq
      intro i hi
      by_cases c : n32 i = x
      · rw [c]; have := neg_i.mp q1; simp; omega
      · rw [q2 _ c]
  · intro g hg h0 hd w hw
    have c : 0 ≤ (pf x).toInt → ¬ g = pf x := fun a e => by rw [e, o1 a] at h0; exact m1 h0
    rw [o2 g c] at h0 ⊢; rw [d2 g c] at hd
    have a := h.own g hg h0
    have ne : ¬ fo g = x := fun e => by rw [e] at a; exact c (by rw [a.2]; exact hg.1) a.2.symm
    rw [q2 _ ne]; exact h.cln g hg h0 hd w hw
  · intro y w hy hw
    unfold ct
    by_cases c : y = x
    · rw [if_pos c, c, if_pos p1, if_pos q1]
    · rw [if_neg c, p2 y c, q2 y c]
theorem ix {s w : Int32} (hs : In 64 s) (hw : In 4 w) : (s * 4 + w).toInt = 4 * s.toInt + w.toInt := by
  have e : (s * 4).toInt = s.toInt * 4 := ml (by show -2147483648 ≤ s.toInt * 4 ∧ s.toInt * 4 < 2147483648; omega)
  rw [ad (by rw [e]; omega), e]; omega
theorem ix_inj {s t w u : Int32} (hs : In 64 s) (ht : In 64 t) (hw : In 4 w) (hu : In 4 u) (e : s * 4 + w = t * 4 + u) : s = t ∧ w = u := by
  have e' := congrArg Int32.toInt e
  rw [ix hs hw, ix ht hu] at e'
  exact ⟨eq_i32.mpr (by omega), eq_i32.mpr (by omega)⟩
theorem px {p g : Int32} (hp : In 4 p) (hg : In 16 g) : (p * 16 + g).toInt = 16 * p.toInt + g.toInt := by
  have e : (p * 16).toInt = p.toInt * 16 := ml (by show -2147483648 ≤ p.toInt * 16 ∧ p.toInt * 16 < 2147483648; omega)
  rw [ad (by rw [e]; omega), e]; omega
theorem px_inj {s t w u : Int32} (hs : In 4 s) (ht : In 4 t) (hw : In 16 w) (hu : In 16 u) (e : s * 16 + w = t * 16 + u) : s = t ∧ w = u := by
  have e' := congrArg Int32.toInt e
  rw [px hs hw, px ht hu] at e'
  exact ⟨eq_i32.mpr (by omega), eq_i32.mpr (by omega)⟩
theorem s1 {i : Int32} (h : 0 ≤ i.toInt ∧ i.toInt < 100000) : (i + 1).toInt = i.toInt + 1 := by
  rw [ad (by show -2147483648 ≤ i.toInt + 1 ∧ i.toInt + 1 < 2147483648; omega)]; rfl
theorem ckn {γ : Type} {n : Int32} {m : Int} {i : Int32} {A : Option γ} (hm : n.toInt = m) (h : In m i) : chk n i A = A := chk_ok (by rw [hm]; exact h)
theorem ltn {x y : Int32} {m : Int} (hm : y.toInt = m) (h : x.toInt < m) : x < y := by rw [lt_i, hm]; exact h
theorem nltn {x y : Int32} {m : Int} (hm : y.toInt = m) (h : ¬ x.toInt < m) : ¬ x < y := by rw [lt_i, hm]; exact h
abbrev PI (ob : Rec) : Prop := PM (gI ob 0) (gI ob 1) (gI ob 2) (gI ob 7) (gA ob 9) (gA ob 10) (gA ob 12) (gA ob 14) (gA ob 15) (gA ob 16) (gA ob 17)
abbrev cont (ob : Rec) (y w : Int32) : Int32 := ct (gA ob 9) (gA ob 10) (gA ob 15) (gA ob 17) y w
theorem PI_c {ob r : Rec} (h : PI ob) (hI : ∀ k, k < 3 ∨ k = 7 → gI r k = gI ob k) (hA : ∀ k x, k = 9 ∨ k = 10 ∨ k = 12 ∨ 14 ≤ k → gA r k x = gA ob k x) : PI r := by
  have e9 : gA r 9 = gA ob 9 := funext fun x => hA 9 x (by omega)
  have e10 : gA r 10 = gA ob 10 := funext fun x => hA 10 x (by omega)
  have e12 : gA r 12 = gA ob 12 := funext fun x => hA 12 x (by omega)
  have e14 : gA r 14 = gA ob 14 := funext fun x => hA 14 x (by omega)
  have e15 : gA r 15 = gA ob 15 := funext fun x => hA 15 x (by omega)
  have e16 : gA r 16 = gA ob 16 := funext fun x => hA 16 x (by omega)
  have e17 : gA r 17 = gA ob 17 := funext fun x => hA 17 x (by omega)
  show PM (gI r 0) (gI r 1) (gI r 2) (gI r 7) (gA r 9) (gA r 10) (gA r 12) (gA r 14) (gA r 15) (gA r 16) (gA r 17)
  rw [hI 0 (by omega), hI 1 (by omega), hI 2 (by omega), hI 7 (by omega), e9, e10, e12, e14, e15, e16, e17]; exact h
theorem cont_c {ob r : Rec} (hA : ∀ k x, k = 9 ∨ k = 10 ∨ k = 12 ∨ 14 ≤ k → gA r k x = gA ob k x) (y w : Int32) : cont r y w = cont ob y w := by
  have e9 : gA r 9 = gA ob 9 := funext fun x => hA 9 x (by omega)
  have e10 : gA r 10 = gA ob 10 := funext fun x => hA 10 x (by omega)
  have e15 : gA r 15 = gA ob 15 := funext fun x => hA 15 x (by omega)
  have e17 : gA r 17 = gA ob 17 := funext fun x => hA 17 x (by omega)
  show ct _ _ _ _ _ _ = _
  rw [e9, e10, e15, e17]
theorem PI_hand {ob : Rec} (h : PI ob) {v : Int32} (hv : In (gI ob 2).toInt v) : PI (sI ob 7 v) := ⟨h.hP, h.hN, h.hF, hv, h.own, h.frm, h.slt, h.inj, h.cnt, h.cln⟩
abbrev Kp (ob r : Rec) : Prop := (PI r) ∧ (∀ y w, In 64 y → In 4 w → cont r y w = cont ob y w) ∧ (∀ k, ¬ k = 7 → gI r k = gI ob k) ∧ (∀ k x, k ≤ 8 → gA r k x = gA ob k x)
theorem Kp.pi {ob r : Rec} (h : Kp ob r) : PI r := h.1
theorem Kp.ct {ob r : Rec} (h : Kp ob r) : ∀ y w, In 64 y → In 4 w → cont r y w = cont ob y w := h.2.1
theorem Kp.si {ob r : Rec} (h : Kp ob r) : ∀ k, ¬ k = 7 → gI r k = gI ob k := h.2.2.1
theorem Kp.sa {ob r : Rec} (h : Kp ob r) : ∀ k x, k ≤ 8 → gA r k x = gA ob k x := h.2.2.2
theorem Kp.tr {a b c : Rec} (h : Kp a b) (g : Kp b c) : Kp a c :=
  ⟨g.pi, fun y w hy hw => (g.ct y w hy hw).trans (h.ct y w hy hw), fun k hk => (g.si k hk).trans (h.si k hk), fun k x hk => (g.sa k x hk).trans (h.sa k x hk)⟩
section pgb
variable (NF : Nat)
theorem al_l (ob : Rec) (tot : Int32) (ht : tot.toInt ≤ 64) : ∀ (m fuel : Nat) (i : Int32), m < fuel → 0 ≤ i.toInt → i.toInt ≤ tot.toInt → tot.toInt - i.toInt ≤ m → (∀ s : Int32, In i.toInt s → ¬ gA ob 16 s = 0) →
    (∃ s, X_allocSlot_l12 NF ob fuel tot i = some s ∧ In tot.toInt s ∧ gA ob 16 s = 0) ∨ (∀ s : Int32, In tot.toInt s → ¬ gA ob 16 s = 0) := by
  intro m
  induction m with
  | zero => intro fuel i hf h0 h1 h2 hs; right; intro s h; exact hs s ⟨h.1, by omega⟩
  | succ m ih =>
    intro fuel i hf h0 h1 h2 hs
    obtain ⟨n, rfl⟩ : ∃ n, fuel = n + 1 := ⟨fuel - 1, by omega⟩
    by_cases hc : i.toInt < tot.toInt
    · have ei := s1 (i := i) (by omega)
      by_cases hz : gA ob 16 i = 0
      · left; refine ⟨i, ?_, ⟨h0, hc⟩, hz⟩
        show X_allocSlot_w12 NF ob _ tot i = _
        unfold X_allocSlot_w12; rw [if_pos (lt_i.mpr hc), ckn (m := 64) rfl ⟨h0, by omega⟩, if_pos hz]
      · have := ih n (i + 1) (by omega) (by omega) (by omega) (by omega) (fun s h => by
          by_cases c : s = i
          · rw [c]; exact hz
          · have : ¬ s.toInt = i.toInt := fun e => c (eq_i32.mpr e)
            exact hs s ⟨h.1, by omega⟩)
        refine this.imp (fun ⟨s, h, a⟩ => ⟨s, ?_, a⟩) id
        rw [← h]
        show X_allocSlot_w12 NF ob _ tot i = _
        unfold X_allocSlot_w12; rw [if_pos (lt_i.mpr hc), ckn (m := 64) rfl ⟨h0, by omega⟩, if_neg hz]
    · right; intro s h; exact hs s ⟨h.1, by omega⟩
theorem al_e (hNF : 70 < NF) {ob : Rec} (h : PI ob) {x : Int32} (hx : VI (gI ob 0) (gI ob 1) x) (hs : gA ob 10 x < 0) : ∃ s, X_allocSlot NF ob = some s ∧ In 64 s ∧ gA ob 16 s = 0 := by
  have hP := h.hP
  have hN := h.hN
  have b1 : (gI ob 0).toInt * (gI ob 1).toInt ≤ 4 * 16 := Int.mul_le_mul (by omega) (by omega) (by omega) (by omega)
  have b0 : 0 ≤ (gI ob 0).toInt * (gI ob 1).toInt := Int.mul_nonneg (by omega) (by omega)
  have e : (gI ob 0 * gI ob 1).toInt = (gI ob 0).toInt * (gI ob 1).toInt := ml (by omega)
  rcases al_l NF ob (gI ob 0 * gI ob 1) (by omega) 64 NF 0 (by omega) (by decide) (by rw [e]; exact b0) (by rw [e]; show _ - (0 : Int) ≤ _; omega) (fun s hs => absurd hs.2 (by have := hs.1; show ¬ s.toInt < 0; omega)) with ⟨s, a, b, c⟩ | c
  · exact ⟨s, a, ⟨b.1, by omega⟩, c⟩
  · exact (PM_free h hx hs (fun s hs => c s (by rw [e]; exact hs))).elim
theorem wb_l {f s : Int32} (hf : In 32 f) (hs : In 64 s) : ∀ (m fuel : Nat) (ob : Rec) (i : Int32), m < fuel → 0 ≤ i.toInt → i.toInt ≤ 4 → 4 - i.toInt ≤ m →
    ∃ r, X_writeBack_l50 NF fuel ob f s i = some r ∧ r.1 = ob.1 ∧ (∀ k x, ¬ k = 14 → ¬ k = 17 → gA r k x = gA ob k x) ∧ gA r 14 f = 0 ∧ (∀ y, ¬ y = f → gA r 14 y = gA ob 14 y) ∧
      (∀ w : Int32, i.toInt ≤ w.toInt → w.toInt < 4 → gA r 17 (s * 4 + w) = gA ob 15 (f * 4 + w)) ∧ (∀ t w : Int32, In 64 t → In 4 w → (t = s → w.toInt < i.toInt) → gA r 17 (t * 4 + w) = gA ob 17 (t * 4 + w)) := by
  have fin : ∀ (n : Nat) (ob : Rec) (i : Int32), ¬ i.toInt < 4 → ∃ r, X_writeBack_l50 NF (n + 1) ob f s i = some r ∧ r.1 = ob.1 ∧ (∀ k x, ¬ k = 14 → ¬ k = 17 → gA r k x = gA ob k x) ∧ gA r 14 f = 0 ∧ (∀ y, ¬ y = f → gA r 14 y = gA ob 14 y) ∧
      (∀ w : Int32, i.toInt ≤ w.toInt → w.toInt < 4 → gA r 17 (s * 4 + w) = gA ob 15 (f * 4 + w)) ∧ (∀ t w : Int32, In 64 t → In 4 w → (t = s → w.toInt < i.toInt) → gA r 17 (t * 4 + w) = gA ob 17 (t * 4 + w)) := by
    intro n ob i hi
    refine ⟨sA ob 14 f 0, ?_, rfl, ?_, ?_, ?_, ?_, ?_⟩
    · show X_writeBack_w50 NF _ ob f s i = _
      unfold X_writeBack_w50; rw [if_neg (nltn (m := 4) rfl hi), ckn (m := 32) rfl hf]
    · intro k x a b; rw [gA_sA, if_neg (fun e => a e.1)]
    · rw [gA_sA, if_pos ⟨rfl, rfl⟩]
    · intro y a; rw [gA_sA, if_neg (fun e => a e.2)]
    · intro w a b; omega
    · intro t w _ _ _; rfl
  intro m
  induction m with
  | zero =>
    intro fuel ob i hfu h0 h1 h2
    obtain ⟨n, rfl⟩ : ∃ n, fuel = n + 1 := ⟨fuel - 1, by omega⟩
    exact fin n ob i (by omega)
  | succ m ih =>
    intro fuel ob i hfu h0 h1 h2
    obtain ⟨n, rfl⟩ : ∃ n, fuel = n + 1 := ⟨fuel - 1, by omega⟩
    by_cases hc : i.toInt < 4
    · have ei := s1 (i := i) (by omega)
      have x1 := ix (s := f) (w := i) ⟨hf.1, by omega⟩ ⟨h0, hc⟩
      have x2 := ix (s := s) (w := i) hs ⟨h0, hc⟩
      obtain ⟨r, h, r1, r2, r3, r4, r5, r6⟩ := ih n (sA ob 17 (s * 4 + i) (gA ob 15 (f * 4 + i))) (i + 1) (by omega) (by omega) (by omega) (by omega)
      refine ⟨r, ?_, r1, ?_, r3, ?_, ?_, ?_⟩
      · rw [← h]
        show X_writeBack_w50 NF _ ob f s i = _
        unfold X_writeBack_w50; rw [if_pos (ltn (m := 4) rfl hc), ckn (m := 128) rfl (by omega), ckn (m := 256) rfl (by omega)]
      · intro k x a b; rw [r2 k x a b, gA_sA, if_neg (fun e => b e.1)]
      · intro y a; rw [r4 y a]; rfl
      · intro w a b
        by_cases c : w = i
        · rw [c, r6 s i hs ⟨h0, hc⟩ (fun _ => by omega), gA_sA, if_pos ⟨rfl, rfl⟩]
        · have : ¬ w.toInt = i.toInt := fun e => c (eq_i32.mpr e)
          rw [r5 w (by omega) b]; rfl
      · intro t w ht hw hh
        rw [r6 t w ht hw (fun e => by have := hh e; omega), gA_sA, if_neg]
        intro e
        have := ix_inj ht hs hw ⟨h0, hc⟩ e.2
        have h3 := hh this.1
        rw [this.2] at h3; omega
    · exact fin n ob i hc
theorem wb_e (hNF : 70 < NF) {ob : Rec} (h : PI ob) {f : Int32} (hf : In (gI ob 2).toInt f) (h0 : ¬ gA ob 12 f < 0) :
    ∃ r, X_writeBack NF ob f = some r ∧ Kp ob r ∧ gI r 7 = gI ob 7 ∧ gA r 14 f = 0 ∧ (∀ k x, k = 9 ∨ k = 12 ∨ k = 13 → gA r k x = gA ob k x) := by
  have hF := h.hF
  have hf32 : In 32 f := ⟨hf.1, by omega⟩
  have ow := h.own f hf (nneg' h0)
  by_cases c : gA ob 10 (gA ob 12 f) < 0
  · obtain ⟨s, e, hs, hz⟩ := al_e NF hNF h ow.1 c
    obtain ⟨r, hr, r1, r2, r3, r4, r5, r6⟩ := wb_l NF hf32 hs 4 NF (sA (sA ob 16 s 1) 10 (gA ob 12 f) s) 0 (by omega) (by decide) (by decide) (by decide)
    have q16 : ∀ y, gA r 16 y = if y = s then 1 else gA ob 16 y := fun y => by rw [r2 16 y (by decide) (by decide), gA_sA, if_neg (fun e => absurd e.1 (by decide)), gA_sA]; simp
    have q10 : ∀ y, gA r 10 y = if y = gA ob 12 f then s else gA ob 10 y := fun y => by rw [r2 10 y (by decide) (by decide), gA_sA, gA_sA, if_neg (show ¬ (10 = 16 ∧ y = s) from fun e => absurd e.1 (by decide))]; simp
    have q : ∀ k x, ¬ k = 10 → ¬ k = 14 → ¬ k = 16 → ¬ k = 17 → gA r k x = gA ob k x := fun k x a b c d => by rw [r2 k x b d, gA_sA, if_neg (fun e => a e.1), gA_sA, if_neg (fun e => c e.1)]
    have qI : ∀ k, gI r k = gI ob k := fun k => by unfold gI; rw [r1]; rfl
    obtain ⟨p1, p2⟩ := PM_wb (ps' := gA r 10) (fd' := gA r 14) (su' := gA r 16) (sw' := gA r 17) h (s := s) hf rfl (nneg' h0) hs (Or.inr ⟨c, hz⟩) (by rw [q10, if_pos rfl]) (fun y n => by rw [q10, if_neg n]) (by rw [q16, if_pos rfl]; decide) (fun y n => by rw [q16, if_neg n]) r3 (fun y n => by rw [r4 y n]; rfl)
      (fun w hw => by rw [r5 w hw.1 hw.2]; rfl) (fun t w ht hw n => by rw [r6 t w ht hw (fun e => absurd e n)]; rfl)
    have e9 : gA r 9 = gA ob 9 := funext fun x => q 9 x (by decide) (by decide) (by decide) (by decide)
    have e12 : gA r 12 = gA ob 12 := funext fun x => q 12 x (by decide) (by decide) (by decide) (by decide)
    have e15 : gA r 15 = gA ob 15 := funext fun x => q 15 x (by decide) (by decide) (by decide) (by decide)
    refine ⟨r, ?_, ⟨?_, ?_, fun k _ => qI k, fun k x hk => q k x (by omega) (by omega) (by omega) (by omega)⟩, qI 7, r3, fun k x hk => q k x (by omega) (by omega) (by omega) (by omega)⟩
    · unfold X_writeBack
      rw [ckn (m := 32) rfl hf32, if_neg h0, ckn (m := 64) rfl ow.1.1, if_pos c, e, Option.bind_some, if_neg (nneg hs.1), ckn (m := 64) rfl hs, ckn (m := 64) rfl ow.1.1, hr]
    · show PM (gI r 0) (gI r 1) (gI r 2) (gI r 7) (gA r 9) (gA r 10) (gA r 12) (gA r 14) (gA r 15) (gA r 16) (gA r 17)
      rw [qI, qI, qI, qI, e9, e12, e15]; exact p1
    · intro y w hy hw
      show ct (gA r 9) (gA r 10) (gA r 15) (gA r 17) y w = _
      rw [e9, e15]; exact p2 y w hy hw
  · have sl := h.slt _ ow.1.1 (nneg' c)
    obtain ⟨r, hr, r1, r2, r3, r4, r5, r6⟩ := wb_l NF hf32 sl.2.1 4 NF ob 0 (by omega) (by decide) (by decide) (by decide)
    have qI : ∀ k, gI r k = gI ob k := fun k => by unfold gI; rw [r1]
    have e9 : gA r 9 = gA ob 9 := funext fun x => r2 9 x (by decide) (by decide)
    have e10 : gA r 10 = gA ob 10 := funext fun x => r2 10 x (by decide) (by decide)
    have e12 : gA r 12 = gA ob 12 := funext fun x => r2 12 x (by decide) (by decide)
    have e15 : gA r 15 = gA ob 15 := funext fun x => r2 15 x (by decide) (by decide)
    have e16 : gA r 16 = gA ob 16 := funext fun x => r2 16 x (by decide) (by decide)
    obtain ⟨p1, p2⟩ := PM_wb (ps' := gA ob 10) (fd' := gA r 14) (su' := gA ob 16) (sw' := gA r 17) h (s := gA ob 10 (gA ob 12 f)) hf rfl (nneg' h0) sl.2.1 (Or.inl rfl) rfl (fun y n => rfl) sl.2.2 (fun y n => rfl) r3 r4
      (fun w hw => r5 w hw.1 hw.2) (fun t w ht hw n => r6 t w ht hw (fun e => absurd e n))
    refine ⟨r, ?_, ⟨?_, ?_, fun k _ => qI k, fun k x hk => r2 k x (by omega) (by omega)⟩, qI 7, r3, fun k x hk => r2 k x (by omega) (by omega)⟩
    · unfold X_writeBack
      rw [ckn (m := 32) rfl hf32, if_neg h0, ckn (m := 64) rfl ow.1.1, if_neg c, hr]
    · show PM (gI r 0) (gI r 1) (gI r 2) (gI r 7) (gA r 9) (gA r 10) (gA r 12) (gA r 14) (gA r 15) (gA r 16) (gA r 17)
      rw [qI, qI, qI, qI, e9, e10, e12, e15, e16]; exact p1
    · intro y w hy hw
      show ct (gA r 9) (gA r 10) (gA r 15) (gA r 17) y w = _
      rw [e9, e10, e15]; exact p2 y w hy hw
/-- a clean, owned frame is emptied -/
theorem evb_e {ob : Rec} (h : PI ob) {f : Int32} (hf : In (gI ob 2).toInt f) (h0 : ¬ gA ob 12 f < 0) (hd : gA ob 14 f = 0) :
    ∃ r, X_evictFrame_b26 NF ob f (gA ob 12 f) = some r ∧ Kp ob r ∧ gA r 12 f < 0 ∧ (∀ y, gA ob 9 y < 0 → gA r 9 y < 0) := by
  have hF := h.hF
  have hf32 : In 32 f := ⟨hf.1, by omega⟩
  have ow := h.own f hf (nneg' h0)
  generalize hx : gA ob 12 f = x at *
  refine ⟨sA (sA (sA (sA ob 9 x (-1)) 12 f (-1)) 13 f 0) 14 f 0, ?_, ?_, ?_, ?_⟩
  · unfold X_evictFrame_b26; rw [ckn (m := 64) rfl ow.1.1, ckn (m := 32) rfl hf32, ckn (m := 32) rfl hf32, ckn (m := 32) rfl hf32]
  · obtain ⟨p1, p2⟩ := PM_ev (pf' := gA (sA (sA (sA (sA ob 9 x (-1)) 12 f (-1)) 13 f 0) 14 f 0) 9) (fo' := gA (sA (sA (sA (sA ob 9 x (-1)) 12 f (-1)) 13 f 0) 14 f 0) 12) (fd' := gA (sA (sA (sA (sA ob 9 x (-1)) 12 f (-1)) 13 f 0) 14 f 0) 14) h hf hx (nneg' h0) hd
      (by simp [gA_sA]) (fun y n => by simp [gA_sA, n]) (by simp [gA_sA]) (fun y n => by simp [gA_sA, n]) (fun y n => by simp [gA_sA, n])
    refine ⟨p1, p2, fun k _ => rfl, fun k x hk => ?_⟩
    rw [gA_sA, if_neg (by omega), gA_sA, if_neg (by omega), gA_sA, if_neg (by omega), gA_sA, if_neg (by omega)]
  · simp [gA_sA]
  · intro y n
    by_cases c : y = x
    · simp [gA_sA, c]
    · simp [gA_sA, c, n]
theorem ev_e (hNF : 70 < NF) {ob : Rec} (h : PI ob) {f : Int32} (hf : In (gI ob 2).toInt f) :
    ∃ r, X_evictFrame NF ob f = some r ∧ Kp ob r ∧ gA r 12 f < 0 ∧ (∀ y, gA ob 9 y < 0 → gA r 9 y < 0) := by
  have hF := h.hF
  have hf32 : In 32 f := ⟨hf.1, by omega⟩
  unfold X_evictFrame; rw [ckn (m := 32) rfl hf32]
  by_cases c : gA ob 12 f < 0
  · rw [if_pos c]; exact ⟨ob, rfl, ⟨h, fun _ _ _ _ => rfl, fun _ _ => rfl, fun _ _ _ => rfl⟩, c, fun _ n => n⟩
  · rw [if_neg c, ckn (m := 32) rfl hf32]
    by_cases d : gA ob 14 f = 0
    · rw [if_pos d]; exact evb_e NF h hf c d
    · rw [if_neg d]
      obtain ⟨r, e, kp, -, r14, rs⟩ := wb_e NF hNF h hf c
      rw [e, Option.bind_some, ← rs 12 f (by omega)]
      obtain ⟨q, e2, kq, q12, q9⟩ := evb_e NF kp.pi (f := f) (by rw [kp.si 2 (by decide)]; exact hf) (by rw [rs 12 f (by omega)]; exact c) r14
      exact ⟨q, e2, kp.tr kq, q12, fun y n => q9 y (by rw [rs 9 y (by omega)]; exact n)⟩
theorem fl_l {f x s b : Int32} (hb : b = f * 4) (hf : In 32 f) (hx : In 64 x) (hs : 0 ≤ s.toInt → In 64 s) : ∀ (m fuel : Nat) (ob : Rec) (i : Int32), m < fuel → 0 ≤ i.toInt → i.toInt ≤ 4 → 4 - i.toInt ≤ m →
    ∃ r, X_fillFrame_l15 NF fuel ob f x s b i = some r ∧ r.1 = ob.1 ∧ (∀ k y, ¬ k = 9 → ¬ k = 11 → ¬ k = 12 → ¬ k = 13 → ¬ k = 14 → ¬ k = 15 → gA r k y = gA ob k y) ∧ gA r 12 f = x ∧ (∀ y, ¬ y = f → gA r 12 y = gA ob 12 y) ∧ (∀ y, ¬ y = f → gA r 14 y = gA ob 14 y) ∧
      gA r 9 x = f ∧ (∀ y, ¬ y = x → gA r 9 y = gA ob 9 y) ∧
      (∀ w : Int32, i.toInt ≤ w.toInt → w.toInt < 4 → gA r 15 (f * 4 + w) = if s < 0 then 0 else gA ob 17 (s * 4 + w)) ∧ (∀ t w : Int32, In 32 t → In 4 w → (t = f → w.toInt < i.toInt) → gA r 15 (t * 4 + w) = gA ob 15 (t * 4 + w)) := by
  have fin : ∀ (n : Nat) (ob : Rec) (i : Int32), ¬ i.toInt < 4 → ∃ r, X_fillFrame_l15 NF (n + 1) ob f x s b i = some r ∧ r.1 = ob.1 ∧ (∀ k y, ¬ k = 9 → ¬ k = 11 → ¬ k = 12 → ¬ k = 13 → ¬ k = 14 → ¬ k = 15 → gA r k y = gA ob k y) ∧ gA r 12 f = x ∧ (∀ y, ¬ y = f → gA r 12 y = gA ob 12 y) ∧ (∀ y, ¬ y = f → gA r 14 y = gA ob 14 y) ∧
      gA r 9 x = f ∧ (∀ y, ¬ y = x → gA r 9 y = gA ob 9 y) ∧
      (∀ w : Int32, i.toInt ≤ w.toInt → w.toInt < 4 → gA r 15 (f * 4 + w) = if s < 0 then 0 else gA ob 17 (s * 4 + w)) ∧ (∀ t w : Int32, In 32 t → In 4 w → (t = f → w.toInt < i.toInt) → gA r 15 (t * 4 + w) = gA ob 15 (t * 4 + w)) := by
    intro n ob i hi
    refine ⟨sA (sA (sA (sA (sA ob 12 f x) 13 f 0) 14 f 0) 9 x f) 11 x (gA ob 1 (x / 16)), ?_, rfl, ?_, ?_, ?_, ?_, ?_, ?_, ?_, ?_⟩
    · show X_fillFrame_w15 NF _ ob f x s b i = _
      have e := dv (x := x) (y := 16) hx.1 (by decide)
      have e' : (x / 16).toInt = x.toInt / 16 := e
      unfold X_fillFrame_w15; rw [if_neg (nltn (m := 4) rfl hi), ckn (m := 32) rfl hf, ckn (m := 32) rfl hf, ckn (m := 32) rfl hf, ckn (m := 64) rfl hx, ckn (m := 4) rfl (by rw [In, e']; omega), ckn (m := 64) rfl hx]
    · intro k y a1 a2 a3 a4 a5 a6; simp [gA_sA, a1, a2, a3, a4, a5]
    · simp [gA_sA]
    · intro y n; simp [gA_sA, n]
    · intro y n; simp [gA_sA, n]
    · simp [gA_sA]
    · intro y n; simp [gA_sA, n]
    · intro w a b; omega
    · intro t w _ _ _; rfl
  intro m
  induction m with
  | zero =>
    intro fuel ob i hfu h0 h1 h2
    obtain ⟨n, rfl⟩ : ∃ n, fuel = n + 1 := ⟨fuel - 1, by omega⟩
    exact fin n ob i (by omega)
  | succ m ih =>
    intro fuel ob i hfu h0 h1 h2
    obtain ⟨n, rfl⟩ : ∃ n, fuel = n + 1 := ⟨fuel - 1, by omega⟩
    by_cases hc : i.toInt < 4
    · have ei := s1 (i := i) (by omega)
      have x1 := ix (s := f) (w := i) ⟨hf.1, by omega⟩ ⟨h0, hc⟩
      obtain ⟨r, h, r1, r2, r3, r4, r4', r5, r5', r6, r7⟩ := ih n (sA ob 15 (b + i) (if s < 0 then 0 else gA ob 17 (s * 4 + i))) (i + 1) (by omega) (by omega) (by omega) (by omega)
      refine ⟨r, ?_, r1, ?_, r3, ?_, ?_, r5, ?_, ?_, ?_⟩
      · rw [← h]
        show X_fillFrame_w15 NF _ ob f x s b i = _
        unfold X_fillFrame_w15; rw [if_pos (ltn (m := 4) rfl hc)]
        by_cases c : s < 0
        · rw [if_pos c, if_pos c, ckn (m := 128) rfl (by rw [hb]; omega)]
        · have x2 := ix (s := s) (w := i) (hs (nneg' c)) ⟨h0, hc⟩
          have hs' := hs (nneg' c)
          rw [if_neg c, if_neg c, ckn (m := 256) rfl (by omega), ckn (m := 128) rfl (by rw [hb]; omega)]
      · intro k y a1 a2 a3 a4 a5 a6; rw [r2 k y a1 a2 a3 a4 a5 a6, gA_sA, if_neg (fun e => a6 e.1)]
      · intro y a; rw [r4 y a]; rfl
      · intro y a; rw [r4' y a]; rfl
      · intro y a; rw [r5' y a]; rfl
      · intro w a b'
        by_cases c : w = i
        · rw [c, r7 f i hf ⟨h0, hc⟩ (fun _ => by omega), gA_sA, if_pos ⟨rfl, by rw [hb]⟩]
        · have : ¬ w.toInt = i.toInt := fun e => c (eq_i32.mpr e)
          rw [r6 w (by omega) b']; rfl
      · intro t w ht hw hh
        rw [r7 t w ht hw (fun e => by have := hh e; omega), gA_sA, if_neg]
        intro e
        have e2 := e.2
        rw [hb] at e2
        have := ix_inj (s := t) (t := f) ⟨ht.1, by omega⟩ ⟨hf.1, by omega⟩ hw ⟨h0, hc⟩ e2
        have h3 := hh this.1
        rw [this.2] at h3; omega
    · exact fin n ob i hc
theorem fl_e (hNF : 70 < NF) {ob : Rec} (h : PI ob) {f x : Int32} (hf : In (gI ob 2).toInt f) (hx : VI (gI ob 0) (gI ob 1) x) (hfr : gA ob 12 f < 0) (hn : gA ob 9 x < 0) :
    ∃ r, X_fillFrame NF ob f x = some r ∧ Kp ob r ∧ gI r 7 = gI ob 7 ∧ gA r 9 x = f := by
  have hF := h.hF
  have hf32 : In 32 f := ⟨hf.1, by omega⟩
  obtain ⟨r, hr, r1, r2, r3, r4, r4', r5, r5', r6, r7⟩ := fl_l NF (b := f * 4) rfl hf32 hx.1 (s := gA ob 10 x) (fun a => (h.slt x hx.1 a).2.1) 4 NF ob 0 (by omega) (by decide) (by decide) (by decide)
  obtain ⟨p1, p2⟩ := PM_fill (pf' := gA r 9) (fo' := gA r 12) (fd' := gA r 14) (fw' := gA r 15) h hf hx hfr hn r5 r5' r3 r4 r4' (fun w hw => r6 w hw.1 hw.2) (fun t w ht hw n => r7 t w ht hw (fun e => absurd e n))
  have qI : ∀ k, gI r k = gI ob k := fun k => by unfold gI; rw [r1]
  have e10 : gA r 10 = gA ob 10 := funext fun x => r2 10 x (by decide) (by decide) (by decide) (by decide) (by decide) (by decide)
  have e16 : gA r 16 = gA ob 16 := funext fun x => r2 16 x (by decide) (by decide) (by decide) (by decide) (by decide) (by decide)
  have e17 : gA r 17 = gA ob 17 := funext fun x => r2 17 x (by decide) (by decide) (by decide) (by decide) (by decide) (by decide)
  refine ⟨r, ?_, ⟨?_, ?_, fun k _ => qI k, fun k y hk => r2 k y (by omega) (by omega) (by omega) (by omega) (by omega) (by omega)⟩, qI 7, r5⟩
  · unfold X_fillFrame; rw [ckn (m := 64) rfl hx.1, hr]
  · show PM (gI r 0) (gI r 1) (gI r 2) (gI r 7) (gA r 9) (gA r 10) (gA r 12) (gA r 14) (gA r 15) (gA r 16) (gA r 17)
    rw [qI, qI, qI, qI, e10, e16, e17]; exact p1
  · intro y w hy hw
    show ct (gA r 9) (gA r 10) (gA r 15) (gA r 17) y w = _
    rw [e10, e17]; exact p2 y w hy hw
theorem ff_e (hNF : 70 < NF) {ob : Rec} (hF : (gI ob 2).toInt ≤ 32) : ∃ f, X_findFreeFrame NF ob = some f ∧ (f < 0 ∨ (In (gI ob 2).toInt f ∧ gA ob 12 f < 0)) := by
  have l : ∀ (m fuel : Nat) (i : Int32), m < fuel → 0 ≤ i.toInt → i.toInt ≤ 32 → 32 - i.toInt ≤ m → ∃ f, X_findFreeFrame_l2 NF ob fuel i = some f ∧ (f < 0 ∨ (In (gI ob 2).toInt f ∧ gA ob 12 f < 0)) := by
    intro m
    induction m with
    | zero =>
      intro fuel i hfu h0 h1 h2
      obtain ⟨n, rfl⟩ : ∃ n, fuel = n + 1 := ⟨fuel - 1, by omega⟩
      refine ⟨-1, ?_, Or.inl (by decide)⟩
      show X_findFreeFrame_w2 NF ob _ i = _
      unfold X_findFreeFrame_w2; rw [if_neg (by rw [lt_i]; omega)]
    | succ m ih =>
      intro fuel i hfu h0 h1 h2
      obtain ⟨n, rfl⟩ : ∃ n, fuel = n + 1 := ⟨fuel - 1, by omega⟩
      show ∃ f, X_findFreeFrame_w2 NF ob (X_findFreeFrame_l2 NF ob n) i = _ ∧ _
      unfold X_findFreeFrame_w2
      by_cases hc : i < gI ob 2
      · have hc' := lt_i.mp hc
        rw [if_pos hc, ckn (m := 32) rfl ⟨h0, by omega⟩]
        by_cases d : gA ob 12 i < 0
        · rw [if_pos d]; exact ⟨i, rfl, Or.inr ⟨⟨h0, hc'⟩, d⟩⟩
        · have ei := s1 (i := i) (by omega)
          rw [if_neg d]; exact ih n (i + 1) (by omega) (by omega) (by omega) (by omega)
      · rw [if_neg hc]; exact ⟨-1, rfl, Or.inl (by decide)⟩
  exact l 32 NF 0 (by omega) (by decide) (by decide) (by decide)
end pgb
section pgc
variable (NF : Nat)
theorem hnd {ob : Rec} (h : PI ob) : In (gI ob 2).toInt ((gI ob 7 + 1) % gI ob 2) := by
  have hF := h.hF
  have hH := h.hH
  have e := s1 (i := gI ob 7) (by omega)
  have e2 := md (x := gI ob 7 + 1) (y := gI ob 2) (by omega) (by omega)
  rw [In, e2]
  exact ⟨Int.emod_nonneg _ (by omega), Int.emod_lt_of_pos _ (by omega)⟩
theorem kp_hand {ob : Rec} (h : PI ob) : Kp ob (sI ob 7 ((gI ob 7 + 1) % gI ob 2)) :=
  ⟨PI_hand h (hnd h), fun _ _ _ _ => rfl, fun k hk => by rw [gI_sI, if_neg hk], fun _ _ _ => rfl⟩
theorem dvz_ok {γ : Type} {y : Int32} {A : Option γ} (h : ¬ y = 0) : dvz y A = A := by unfold dvz; rw [if_neg h]
theorem cvb {ob : Rec} {F i1 i2 f : Int32} {k4 : Rec → Int32 → Int32 → Option (Int32 × Rec)} (hNF : 70 < NF) (h : PI ob) (hF : gI ob 2 = F) (h1 : i1 < 0 ∨ In F.toInt i1) (hf : In F.toInt f) (h12 : ¬ gA ob 12 f < 0)
    (ih : ∀ (ob' : Rec) (j : Int32), PI ob' → gI ob' 2 = F → (j < 0 ∨ In F.toInt j) → ∃ v r, k4 ob' j (i2 + 1) = some (v, r) ∧ In F.toInt v ∧ Kp ob' r ∧ ∀ y, gA r 9 y = gA ob' 9 y) (t : Int32) :
    ∃ v r, X_chooseVictim_b126 NF k4 ob i1 i2 f t = some (v, r) ∧ In F.toInt v ∧ Kp ob r ∧ ∀ y, gA r 9 y = gA ob 9 y := by
  have hF' := h.hF
  have hf32 : In 32 f := ⟨hf.1, by rw [hF] at hF'; omega⟩
  unfold X_chooseVictim_b126
  by_cases ct : t = 0
  · rw [if_pos ct]
    by_cases c : i1 < 0
    · rw [if_pos c, ckn (m := 32) rfl hf32]
      by_cases d : gA ob 14 f = 0
      · rw [if_pos d]; exact ih ob f h hF (Or.inr hf)
      · rw [if_neg d]; exact ih ob i1 h hF h1
    · rw [if_neg c]; exact ih ob i1 h hF h1
  · rw [if_neg ct, ckn (m := 32) rfl hf32]
    by_cases d : gA ob 14 f = 0
    · rw [if_pos d]; exact ⟨f, ob, rfl, hf, ⟨h, fun _ _ _ _ => rfl, fun _ _ => rfl, fun _ _ _ => rfl⟩, fun _ => rfl⟩
    · rw [if_neg d]
      obtain ⟨r, e, kp, -, -, rs⟩ := wb_e NF hNF h (by rw [hF]; exact hf) h12
      rw [e, Option.bind_some]
      obtain ⟨v, q, e2, hv, kq, q9⟩ := ih r i1 kp.pi (by rw [kp.si 2 (by decide), hF]) h1
      exact ⟨v, q, e2, hv, kp.tr kq, fun y => (q9 y).trans (rs 9 y (by omega))⟩
theorem cv_l (hNF : 70 < NF) (F : Int32) : ∀ (m fuel : Nat) (ob : Rec) (i1 i2 : Int32), m < fuel → PI ob → gI ob 2 = F → (i1 < 0 ∨ In F.toInt i1) → 0 ≤ i2.toInt → i2.toInt ≤ 64 → 64 - i2.toInt ≤ m →
    ∃ v r, X_chooseVictim_l4 NF fuel ob i1 i2 = some (v, r) ∧ In F.toInt v ∧ Kp ob r ∧ ∀ y, gA r 9 y = gA ob 9 y := by
  have fin : ∀ (k4 : Rec → Int32 → Int32 → Option (Int32 × Rec)) (ob : Rec) (i1 i2 : Int32), PI ob → gI ob 2 = F → (i1 < 0 ∨ In F.toInt i1) → ¬ i2 < 2 * F → ∃ v r, X_chooseVictim_w4 NF k4 ob i1 i2 = some (v, r) ∧ In F.toInt v ∧ Kp ob r ∧ ∀ y, gA r 9 y = gA ob 9 y := by
    intro k4 ob i1 i2 h hF h1 hi
    have hF' := h.hF
    have hH := h.hH
    unfold X_chooseVictim_w4; rw [hF, if_neg hi]
    by_cases c : i1 < 0
    · rw [if_pos c, dvz_ok (by intro e; rw [hF, e] at hF'; exact absurd hF'.1 (by decide))]
      exact ⟨_, _, rfl, by rw [← hF]; exact hH, by rw [← hF]; exact kp_hand h, fun _ => rfl⟩
    · rw [if_neg c]; exact ⟨_, _, rfl, h1.resolve_left c, ⟨h, fun _ _ _ _ => rfl, fun _ _ => rfl, fun _ _ _ => rfl⟩, fun _ => rfl⟩
  have t2 : ∀ ob, PI ob → gI ob 2 = F → ((2 : Int32) * F).toInt = 2 * F.toInt := by
    intro ob h e
    have := h.hF
    rw [e] at this
    exact ml (by show -2147483648 ≤ 2 * F.toInt ∧ 2 * F.toInt < 2147483648; omega)
  intro m
  induction m with
  | zero =>
    intro fuel ob i1 i2 hfu h hF h1 h0 h2 h3
    obtain ⟨n, rfl⟩ : ∃ n, fuel = n + 1 := ⟨fuel - 1, by omega⟩
    have := h.hF
    rw [hF] at this
    exact fin _ ob i1 i2 h hF h1 (by rw [lt_i, t2 ob h hF]; omega)
  | succ m ih =>
    intro fuel ob i1 i2 hfu h hF h1 h0 h2 h3
    obtain ⟨n, rfl⟩ : ∃ n, fuel = n + 1 := ⟨fuel - 1, by omega⟩
    show ∃ v r, X_chooseVictim_w4 NF (X_chooseVictim_l4 NF n) ob i1 i2 = _ ∧ _
    by_cases hi : i2 < 2 * F
    · have hF' := h.hF
      rw [hF] at hF'
      have hi' := lt_i.mp hi
      rw [t2 ob h hF] at hi'
      have ei := s1 (i := i2) (by omega)
      have ih' : ∀ (ob' : Rec) (j : Int32), PI ob' → gI ob' 2 = F → (j < 0 ∨ In F.toInt j) → ∃ v r, X_chooseVictim_l4 NF n ob' j (i2 + 1) = some (v, r) ∧ In F.toInt v ∧ Kp ob' r ∧ ∀ y, gA r 9 y = gA ob' 9 y :=
        fun ob' j a b c => ih n ob' j (i2 + 1) (by omega) a b c (by omega) (by omega) (by omega)
      have hH := h.hH
      rw [hF] at hH
      have hH32 : In 32 (gI ob 7) := ⟨hH.1, by omega⟩
      have kh := kp_hand h
      have Fz : ¬ gI ob 2 = 0 := by intro e; rw [← hF, e] at hF'; exact absurd hF'.1 (by decide)
      unfold X_chooseVictim_w4; rw [if_pos (by rw [hF]; exact hi), dvz_ok Fz, ckn (m := 32) rfl hH32]
      generalize hob : sI ob 7 ((gI ob 7 + 1) % gI ob 2) = ob' at *
      have s12 : ∀ k y, gA ob' k y = gA ob k y := fun k y => by rw [← hob]; rfl
      have e2 : gI ob' 2 = F := by rw [kh.si 2 (by decide), hF]
      by_cases c : gA ob 12 (gI ob 7) < 0
      · rw [if_pos c]; exact ⟨_, _, rfl, hH, kh, fun y => s12 9 y⟩
      · have ow := h.own (gI ob 7) (by rw [hF]; exact hH) (nneg' c)
        have ex : (gA ob 12 (gI ob 7) / 16).toInt = (gA ob 12 (gI ob 7)).toInt / 16 := dv (y := 16) ow.1.1.1 (by decide)
        have b4 : In 4 (gA ob 12 (gI ob 7) / 16) := by rw [In, ex]; have := ow.1.1; omega
        have cb : ∀ t, ∃ v r, X_chooseVictim_b126 NF (X_chooseVictim_l4 NF n) ob' i1 i2 (gI ob 7) t = some (v, r) ∧ In F.toInt v ∧ Kp ob r ∧ ∀ y, gA r 9 y = gA ob 9 y := by
          intro t
          obtain ⟨v, r, a1, a2, a3, a4⟩ := cvb NF hNF kh.pi e2 h1 hH (by rw [s12]; exact c) ih' t
          exact ⟨v, r, a1, a2, kh.tr a3, fun y => (a4 y).trans (s12 9 y)⟩
        rw [if_neg c, ckn (m := 32) rfl hH32]
        by_cases d : gA ob 13 (gI ob 7) = 0
        · rw [if_pos d, ckn (m := 4) rfl b4]
          by_cases e : gA ob 0 (gA ob 12 (gI ob 7) / 16) = 0
          · rw [if_pos e, ckn (m := 4) rfl b4, ckn (m := 64) rfl ow.1.1]
            by_cases g : gA ob 1 (gA ob 12 (gI ob 7) / 16) - gA ob 11 (gA ob 12 (gI ob 7)) < gI ob 3
            · rw [if_pos g]; exact cb 0
            · rw [if_neg g]; exact cb 1
          · rw [if_neg e]; exact cb 1
        · rw [if_neg d, ckn (m := 32) rfl hH32, ckn (m := 4) rfl b4, ckn (m := 64) rfl ow.1.1]
          generalize hq : sA (sA ob' 13 (gI ob 7) 0) 11 (gA ob 12 (gI ob 7)) (gA ob 1 (gA ob 12 (gI ob 7) / 16)) = q
          have qA : ∀ k y, ¬ k = 13 → ¬ k = 11 → gA q k y = gA ob' k y := fun k y a b => by rw [← hq, gA_sA, if_neg (fun e => b e.1), gA_sA, if_neg (fun e => a e.1)]
          have qI : ∀ k, gI q k = gI ob' k := fun k => by rw [← hq]; rfl
          have pq : PI q := PI_c kh.pi (fun k _ => qI k) (fun k y hk => qA k y (by omega) (by omega))
          obtain ⟨v, r, a1, a2, a3, a4⟩ := ih' q i1 pq (by rw [qI, e2]) h1
          refine ⟨v, r, a1, a2, kh.tr (Kp.tr ⟨pq, fun y w _ _ => cont_c (fun k y hk => qA k y (by omega) (by omega)) y w, fun k _ => qI k, fun k y hk => qA k y (by omega) (by omega)⟩ a3), fun y => (a4 y).trans ((qA 9 y (by decide) (by decide)).trans (s12 9 y))⟩
    · exact fin _ ob i1 i2 h hF h1 hi
theorem er_e (hNF : 70 < NF) {ob : Rec} (h : PI ob) {p g : Int32} (hp : In (gI ob 0).toInt p) (hg : In (gI ob 1).toInt g) :
    ∃ f r, X_ensureResident NF ob p g = some (f, r) ∧ In (gI ob 2).toInt f ∧ Kp ob r ∧ gA r 9 (p * 16 + g) = f := by
  have hP := h.hP
  have hN := h.hN
  have hF := h.hF
  have ex := px (p := p) (g := g) ⟨hp.1, by omega⟩ ⟨hg.1, by omega⟩
  generalize hx : p * 16 + g = x at *
  have vx : VI (gI ob 0) (gI ob 1) x := ⟨⟨by omega, by omega⟩, by omega, by omega⟩
  unfold X_ensureResident; rw [hx, ckn (m := 64) rfl vx.1]
  by_cases c : gA ob 9 x < 0
  · rw [if_pos c]
    obtain ⟨f, e, hf⟩ := ff_e NF hNF (ob := ob) (by omega)
    rw [e, Option.bind_some]
    by_cases d : f < 0
    · rw [if_pos d]
      obtain ⟨v, r, a1, a2, a3, a4⟩ := cv_l NF hNF (gI ob 2) 64 NF ob (-1) 0 (by omega) h rfl (Or.inl (by decide)) (by decide) (by decide) (by decide)
      unfold X_chooseVictim
      rw [a1, bind2_some]
      have r2 := a3.si 2 (by decide)
      obtain ⟨q, e2, kq, q12, q9⟩ := ev_e NF hNF a3.pi (f := v) (by rw [r2]; exact a2)
      rw [e2, Option.bind_some]
      have kk := a3.tr kq
      unfold X_ensureResident_b46
      obtain ⟨z, e3, kz, -, z9⟩ := fl_e NF hNF kq.pi (f := v) (x := x) (by rw [kk.si 2 (by decide)]; exact a2) (by rw [kk.si 0 (by decide), kk.si 1 (by decide)]; exact vx) q12 (q9 x (by rw [a4]; exact c))
      rw [e3, Option.bind_some]
      exact ⟨v, z, rfl, a2, kk.tr kz, z9⟩
    · rw [if_neg d]
      have hf' := hf.resolve_left d
      unfold X_ensureResident_b46
      obtain ⟨z, e3, kz, -, z9⟩ := fl_e NF hNF h (f := f) (x := x) hf'.1 vx hf'.2 c
      rw [e3, Option.bind_some]
      exact ⟨f, z, rfl, hf'.1, kz, z9⟩
  · rw [if_neg c]
    exact ⟨_, ob, rfl, (h.frm x vx.1 (nneg' c)).1, ⟨h, fun _ _ _ _ => rfl, fun _ _ => rfl, fun _ _ _ => rfl⟩, rfl⟩
/-- the window slides: c1, w1 = counts and size after the oldest is given up -/
abbrev PW (p g : Int32) (ob r : Rec) (c1 : Int32 → Int32) (w1 : Int32) : Prop := (∀ k, gI r k = gI ob k) ∧ (∀ k x, ¬ k = 2 → ¬ k = 3 → ¬ k = 4 → ¬ k = 6 → ¬ k = 7 → gA r k x = gA ob k x) ∧ (∀ k x, ¬ k = 6 → ¬ k = 7 → ¬ x = p → gA r k x = gA ob k x) ∧ (gA r 3 p = (gA ob 3 p + 1) % gI ob 3) ∧ (∀ x, gA r 6 x = if x = p * 16 + gA ob 3 p then g else gA ob 6 x) ∧ (gA r 2 p = if gA ob 2 p < gI ob 3 then gA ob 2 p + 1 else gA ob 2 p) ∧ (gA ob 2 p < gI ob 3 → c1 = gA ob 7 ∧ w1 = gA ob 4 p) ∧ (¬ gA ob 2 p < gI ob 3 → (∀ x, c1 x = if x = p * 16 + gA ob 6 (p * 16 + gA ob 3 p) then gA ob 7 x - 1 else gA ob 7 x) ∧ w1 = if c1 (p * 16 + gA ob 6 (p * 16 + gA ob 3 p)) = 0 then gA ob 4 p - 1 else gA ob 4 p) ∧ (∀ x, gA r 7 x = if x = p * 16 + g then c1 x + 1 else c1 x) ∧ (gA r 4 p = if c1 (p * 16 + g) = 0 then w1 + 1 else w1)
theorem PW.si {p g : Int32} {ob r : Rec} {c1 : Int32 → Int32} {w1 : Int32} (h : PW p g ob r c1 w1) : ∀ k, gI r k = gI ob k := h.1
theorem PW.sa {p g : Int32} {ob r : Rec} {c1 : Int32 → Int32} {w1 : Int32} (h : PW p g ob r c1 w1) : ∀ k x, ¬ k = 2 → ¬ k = 3 → ¬ k = 4 → ¬ k = 6 → ¬ k = 7 → gA r k x = gA ob k x := h.2.1
theorem PW.so {p g : Int32} {ob r : Rec} {c1 : Int32 → Int32} {w1 : Int32} (h : PW p g ob r c1 w1) : ∀ k x, ¬ k = 6 → ¬ k = 7 → ¬ x = p → gA r k x = gA ob k x := h.2.2.1
theorem PW.hd {p g : Int32} {ob r : Rec} {c1 : Int32 → Int32} {w1 : Int32} (h : PW p g ob r c1 w1) : gA r 3 p = (gA ob 3 p + 1) % gI ob 3 := h.2.2.2.1
theorem PW.rg {p g : Int32} {ob r : Rec} {c1 : Int32 → Int32} {w1 : Int32} (h : PW p g ob r c1 w1) : ∀ x, gA r 6 x = if x = p * 16 + gA ob 3 p then g else gA ob 6 x := h.2.2.2.2.1
theorem PW.ln {p g : Int32} {ob r : Rec} {c1 : Int32 → Int32} {w1 : Int32} (h : PW p g ob r c1 w1) : gA r 2 p = if gA ob 2 p < gI ob 3 then gA ob 2 p + 1 else gA ob 2 p := h.2.2.2.2.2.1
theorem PW.c1l {p g : Int32} {ob r : Rec} {c1 : Int32 → Int32} {w1 : Int32} (h : PW p g ob r c1 w1) : gA ob 2 p < gI ob 3 → c1 = gA ob 7 ∧ w1 = gA ob 4 p := h.2.2.2.2.2.2.1
theorem PW.c1g {p g : Int32} {ob r : Rec} {c1 : Int32 → Int32} {w1 : Int32} (h : PW p g ob r c1 w1) : ¬ gA ob 2 p < gI ob 3 → (∀ x, c1 x = if x = p * 16 + gA ob 6 (p * 16 + gA ob 3 p) then gA ob 7 x - 1 else gA ob 7 x) ∧ w1 = if c1 (p * 16 + gA ob 6 (p * 16 + gA ob 3 p)) = 0 then gA ob 4 p - 1 else gA ob 4 p := h.2.2.2.2.2.2.2.1
theorem PW.cn {p g : Int32} {ob r : Rec} {c1 : Int32 → Int32} {w1 : Int32} (h : PW p g ob r c1 w1) : ∀ x, gA r 7 x = if x = p * 16 + g then c1 x + 1 else c1 x := h.2.2.2.2.2.2.2.2.1
theorem PW.ws {p g : Int32} {ob r : Rec} {c1 : Int32 → Int32} {w1 : Int32} (h : PW p g ob r c1 w1) : gA r 4 p = if c1 (p * 16 + g) = 0 then w1 + 1 else w1 := h.2.2.2.2.2.2.2.2.2
theorem pwb {ob : Rec} {p g h : Int32} (hp : In 4 p) (hg : In 16 g) (hh : In 16 h) (hT : ¬ gI ob 3 = 0) :
    ∃ r, X_pushWindow_b100 ob p g (p * 16) h = some r ∧ (∀ k, gI r k = gI ob k) ∧ (∀ k x, ¬ k = 3 → ¬ k = 4 → ¬ k = 6 → ¬ k = 7 → gA r k x = gA ob k x) ∧ (∀ k x, ¬ k = 6 → ¬ k = 7 → ¬ x = p → gA r k x = gA ob k x) ∧
      gA r 3 p = (h + 1) % gI ob 3 ∧ (∀ x, gA r 6 x = if x = p * 16 + h then g else gA ob 6 x) ∧ (∀ x, gA r 7 x = if x = p * 16 + g then gA ob 7 x + 1 else gA ob 7 x) ∧ gA r 4 p = if gA ob 7 (p * 16 + g) = 0 then gA ob 4 p + 1 else gA ob 4 p := by
  have e1 := px hp hg
  have e2 := px hp hh
  have i1 : In 64 (p * 16 + g) := by rw [In, e1]; omega
  have i2 : In 64 (p * 16 + h) := by rw [In, e2]; omega
  unfold X_pushWindow_b100; rw [ckn (m := 64) rfl i2, ckn (m := 64) rfl i1]
  by_cases c : gA ob 7 (p * 16 + g) = 0
  · rw [if_pos c, ckn (m := 4) rfl hp, ckn (m := 4) rfl hp]
    unfold X_pushWindow_b135; rw [ckn (m := 64) rfl i1, ckn (m := 64) rfl i1]
    generalize hob : sA (sA ob 6 (p * 16 + h) g) 4 p (gA ob 4 p + 1) = q
    have qI : ∀ k, gI q k = gI ob k := fun k => by rw [← hob]; rfl
    rw [dvz_ok (by rw [qI]; exact hT), ckn (m := 4) rfl hp]
    refine ⟨_, rfl, qI, ?_, ?_, ?_, ?_, ?_, ?_⟩
    · intro k x a b d e; rw [← hob]; simp [gA_sA, a, b, d, e]
    · intro k x d e n; rw [← hob]; simp [gA_sA, d, e, n]
    · rw [qI, gA_sA, if_pos ⟨rfl, rfl⟩]
    · intro x; rw [← hob]; simp [gA_sA]
    · intro x; rw [← hob]
      by_cases n : x = p * 16 + g
      · simp [gA_sA, n]
      · simp [gA_sA, n]
    · rw [← hob, if_pos c]; simp [gA_sA]
  · rw [if_neg c]
    unfold X_pushWindow_b135; rw [ckn (m := 64) rfl i1, ckn (m := 64) rfl i1]
    generalize hob : sA ob 6 (p * 16 + h) g = q
    have qI : ∀ k, gI q k = gI ob k := fun k => by rw [← hob]; rfl
    rw [dvz_ok (by rw [qI]; exact hT), ckn (m := 4) rfl hp]
    refine ⟨_, rfl, qI, ?_, ?_, ?_, ?_, ?_, ?_⟩
    · intro k x a b d e; rw [← hob]; simp [gA_sA, a, b, d, e]
    · intro k x d e n; rw [← hob]; simp [gA_sA, d, e, n]
    · rw [qI, gA_sA, if_pos ⟨rfl, rfl⟩]
    · intro x; rw [← hob]; simp [gA_sA]
    · intro x; rw [← hob]
      by_cases n : x = p * 16 + g
      · simp [gA_sA, n]
      · simp [gA_sA, n]
    · rw [← hob, if_neg c]; simp [gA_sA]
theorem pw_e {ob : Rec} {p g : Int32} (hp : In 4 p) (hg : In 16 g) (hh : In 16 (gA ob 3 p)) (hT : ¬ gI ob 3 = 0) (hr : In 16 (gA ob 6 (p * 16 + gA ob 3 p))) :
    ∃ r c1 w1, X_pushWindow ob p g = some r ∧ PW p g ob r c1 w1 := by
  have e2 := px hp hh
  have e3 := px hp hr
  have i2 : In 64 (p * 16 + gA ob 3 p) := by rw [In, e2]; omega
  have i3 : In 64 (p * 16 + gA ob 6 (p * 16 + gA ob 3 p)) := by rw [In, e3]; omega
  unfold X_pushWindow; rw [ckn (m := 4) rfl hp, ckn (m := 4) rfl hp]
  by_cases c : gA ob 2 p < gI ob 3
  · rw [if_pos c, ckn (m := 4) rfl hp, ckn (m := 4) rfl hp]
    obtain ⟨r, e, rI, ra, rb, r3, r6, r7, r4⟩ := pwb (ob := sA ob 2 p (gA ob 2 p + 1)) (h := gA ob 3 p) hp hg hh hT
    refine ⟨r, gA ob 7, gA ob 4 p, e, rI, ?_, ?_, r3, r6, ?_, fun _ => ⟨rfl, rfl⟩, fun n => absurd c n, r7, r4⟩
    · intro k x a1 a2 a3 a4 a5; rw [ra k x a2 a3 a4 a5, gA_sA, if_neg (fun e => a1 e.1)]
    · intro k x a1 a2 a3; rw [rb k x a1 a2 a3, gA_sA, if_neg (fun e => a3 e.2)]
    · rw [if_pos c, ra 2 p (by decide) (by decide) (by decide) (by decide), gA_sA, if_pos ⟨rfl, rfl⟩]
  · rw [if_neg c, ckn (m := 64) rfl i2, ckn (m := 64) rfl i3, ckn (m := 64) rfl i3, ckn (m := 64) rfl i3]
    generalize ho : p * 16 + gA ob 6 (p * 16 + gA ob 3 p) = o at *
    have f7 : ∀ x, gA (sA ob 7 o (gA ob 7 o - 1)) 7 x = if x = o then gA ob 7 x - 1 else gA ob 7 x := fun x => by
      by_cases n : x = o
      · simp [gA_sA, n]
      · simp [gA_sA, n]
    by_cases d : gA (sA ob 7 o (gA ob 7 o - 1)) 7 o = 0
    · rw [if_pos d, ckn (m := 4) rfl hp, ckn (m := 4) rfl hp]
      obtain ⟨r, e, rI, ra, rb, r3, r6, r7, r4⟩ := pwb (ob := sA (sA ob 7 o (gA ob 7 o - 1)) 4 p (gA ob 4 p - 1)) (h := gA ob 3 p) hp hg hh hT
      refine ⟨r, gA (sA ob 7 o (gA ob 7 o - 1)) 7, gA ob 4 p - 1, e, rI, ?_, ?_, r3, r6, ?_, fun n => absurd n c, fun _ => ⟨?_, ?_⟩, r7, ?_⟩
      · intro k x a1 a2 a3 a4 a5; rw [ra k x a2 a3 a4 a5, gA_sA, if_neg (fun e => a3 e.1), gA_sA, if_neg (fun e => a5 e.1)]
      · intro k x a1 a2 a3; rw [rb k x a1 a2 a3, gA_sA, if_neg (fun e => a3 e.2), gA_sA, if_neg (fun e => a2 e.1)]
      · rw [if_neg c, ra 2 p (by decide) (by decide) (by decide) (by decide)]; rfl
      · rw [ho]; exact f7
      · rw [ho, if_pos d]
      · rw [r4]; simp [gA_sA]
    · rw [if_neg d]
      obtain ⟨r, e, rI, ra, rb, r3, r6, r7, r4⟩ := pwb (ob := sA ob 7 o (gA ob 7 o - 1)) (h := gA ob 3 p) hp hg hh hT
      refine ⟨r, gA (sA ob 7 o (gA ob 7 o - 1)) 7, gA ob 4 p, e, rI, ?_, ?_, r3, r6, ?_, fun n => absurd n c, fun _ => ⟨?_, ?_⟩, r7, r4⟩
      · intro k x a1 a2 a3 a4 a5; rw [ra k x a2 a3 a4 a5, gA_sA, if_neg (fun e => a5 e.1)]
      · intro k x a1 a2 a3; rw [rb k x a1 a2 a3, gA_sA, if_neg (fun e => a2 e.1)]
      · rw [if_neg c, ra 2 p (by decide) (by decide) (by decide) (by decide)]; rfl
      · rw [ho]; exact f7
      · rw [ho, if_neg d]
/-- one reference recorded -/
abbrev RR (p g : Int32) (ob r : Rec) (c1 : Int32 → Int32) (w1 : Int32) : Prop := (∀ k, gI r k = gI ob k) ∧ (∀ k x, k = 0 ∨ k = 9 ∨ k = 10 ∨ k = 12 ∨ 14 ≤ k → gA r k x = gA ob k x) ∧ (∀ k x, k ≤ 5 → ¬ x = p → gA r k x = gA ob k x) ∧ (gA r 1 p = gA ob 1 p + 1) ∧ (gA r 3 p = (gA ob 3 p + 1) % gI ob 3) ∧ (∀ x, gA r 6 x = if x = p * 16 + gA ob 3 p then g else gA ob 6 x) ∧ (gA r 2 p = if gA ob 2 p < gI ob 3 then gA ob 2 p + 1 else gA ob 2 p) ∧ (gA ob 2 p < gI ob 3 → c1 = gA ob 7 ∧ w1 = gA ob 4 p) ∧ (¬ gA ob 2 p < gI ob 3 → (∀ x, c1 x = if x = p * 16 + gA ob 6 (p * 16 + gA ob 3 p) then gA ob 7 x - 1 else gA ob 7 x) ∧ w1 = if c1 (p * 16 + gA ob 6 (p * 16 + gA ob 3 p)) = 0 then gA ob 4 p - 1 else gA ob 4 p) ∧ (∀ x, gA r 7 x = if x = p * 16 + g then c1 x + 1 else c1 x) ∧ (gA r 4 p = if c1 (p * 16 + g) = 0 then w1 + 1 else w1) ∧ (¬ gA r 8 (p * 16 + g) = 0) ∧ (∀ x, ¬ x = p * 16 + g → gA r 8 x = gA ob 8 x) ∧ (gA r 5 p = if gA ob 8 (p * 16 + g) = 0 then gA ob 5 p + 1 else gA ob 5 p)
theorem RR.si {p g : Int32} {ob r : Rec} {c1 : Int32 → Int32} {w1 : Int32} (h : RR p g ob r c1 w1) : ∀ k, gI r k = gI ob k := h.1
theorem RR.sa {p g : Int32} {ob r : Rec} {c1 : Int32 → Int32} {w1 : Int32} (h : RR p g ob r c1 w1) : ∀ k x, k = 0 ∨ k = 9 ∨ k = 10 ∨ k = 12 ∨ 14 ≤ k → gA r k x = gA ob k x := h.2.1
theorem RR.so {p g : Int32} {ob r : Rec} {c1 : Int32 → Int32} {w1 : Int32} (h : RR p g ob r c1 w1) : ∀ k x, k ≤ 5 → ¬ x = p → gA r k x = gA ob k x := h.2.2.1
theorem RR.vt {p g : Int32} {ob r : Rec} {c1 : Int32 → Int32} {w1 : Int32} (h : RR p g ob r c1 w1) : gA r 1 p = gA ob 1 p + 1 := h.2.2.2.1
theorem RR.hd {p g : Int32} {ob r : Rec} {c1 : Int32 → Int32} {w1 : Int32} (h : RR p g ob r c1 w1) : gA r 3 p = (gA ob 3 p + 1) % gI ob 3 := h.2.2.2.2.1
theorem RR.rg {p g : Int32} {ob r : Rec} {c1 : Int32 → Int32} {w1 : Int32} (h : RR p g ob r c1 w1) : ∀ x, gA r 6 x = if x = p * 16 + gA ob 3 p then g else gA ob 6 x := h.2.2.2.2.2.1
theorem RR.ln {p g : Int32} {ob r : Rec} {c1 : Int32 → Int32} {w1 : Int32} (h : RR p g ob r c1 w1) : gA r 2 p = if gA ob 2 p < gI ob 3 then gA ob 2 p + 1 else gA ob 2 p := h.2.2.2.2.2.2.1
theorem RR.c1l {p g : Int32} {ob r : Rec} {c1 : Int32 → Int32} {w1 : Int32} (h : RR p g ob r c1 w1) : gA ob 2 p < gI ob 3 → c1 = gA ob 7 ∧ w1 = gA ob 4 p := h.2.2.2.2.2.2.2.1
theorem RR.c1g {p g : Int32} {ob r : Rec} {c1 : Int32 → Int32} {w1 : Int32} (h : RR p g ob r c1 w1) : ¬ gA ob 2 p < gI ob 3 → (∀ x, c1 x = if x = p * 16 + gA ob 6 (p * 16 + gA ob 3 p) then gA ob 7 x - 1 else gA ob 7 x) ∧ w1 = if c1 (p * 16 + gA ob 6 (p * 16 + gA ob 3 p)) = 0 then gA ob 4 p - 1 else gA ob 4 p := h.2.2.2.2.2.2.2.2.1
theorem RR.cn {p g : Int32} {ob r : Rec} {c1 : Int32 → Int32} {w1 : Int32} (h : RR p g ob r c1 w1) : ∀ x, gA r 7 x = if x = p * 16 + g then c1 x + 1 else c1 x := h.2.2.2.2.2.2.2.2.2.1
theorem RR.ws {p g : Int32} {ob r : Rec} {c1 : Int32 → Int32} {w1 : Int32} (h : RR p g ob r c1 w1) : gA r 4 p = if c1 (p * 16 + g) = 0 then w1 + 1 else w1 := h.2.2.2.2.2.2.2.2.2.2.1
theorem RR.tn {p g : Int32} {ob r : Rec} {c1 : Int32 → Int32} {w1 : Int32} (h : RR p g ob r c1 w1) : ¬ gA r 8 (p * 16 + g) = 0 := h.2.2.2.2.2.2.2.2.2.2.2.1
theorem RR.ts {p g : Int32} {ob r : Rec} {c1 : Int32 → Int32} {w1 : Int32} (h : RR p g ob r c1 w1) : ∀ x, ¬ x = p * 16 + g → gA r 8 x = gA ob 8 x := h.2.2.2.2.2.2.2.2.2.2.2.2.1
theorem RR.tc {p g : Int32} {ob r : Rec} {c1 : Int32 → Int32} {w1 : Int32} (h : RR p g ob r c1 w1) : gA r 5 p = if gA ob 8 (p * 16 + g) = 0 then gA ob 5 p + 1 else gA ob 5 p := h.2.2.2.2.2.2.2.2.2.2.2.2.2
theorem rrb {ob : Rec} {p g : Int32} (hp : In 4 p) (hg : In 16 g) (hh : In 16 (gA ob 3 p)) (hT : ¬ gI ob 3 = 0) (hr : In 16 (gA ob 6 (p * 16 + gA ob 3 p))) :
    ∃ r c1 w1, X_recordReference_b28 ob p g (p * 16 + g) = some r ∧ RR p g ob r c1 w1 := by
  have e1 := px hp hg
  have i1 : In 64 (p * 16 + g) := by rw [In, e1]; omega
  unfold X_recordReference_b28; rw [ckn (m := 4) rfl hp, ckn (m := 4) rfl hp, ckn (m := 4) rfl hp, ckn (m := 64) rfl i1]
  generalize hob : sA (sA ob 1 p (gA ob 1 p + 1)) 11 (p * 16 + g) (gA (sA ob 1 p (gA ob 1 p + 1)) 1 p) = q
  have qI : ∀ k, gI q k = gI ob k := fun k => by rw [← hob]; rfl
  have qA : ∀ k x, ¬ k = 1 → ¬ k = 11 → gA q k x = gA ob k x := fun k x a b => by rw [← hob, gA_sA, if_neg (fun e => b e.1), gA_sA, if_neg (fun e => a e.1)]
  have qo : ∀ k x, ¬ k = 11 → ¬ x = p → gA q k x = gA ob k x := fun k x a b => by rw [← hob, gA_sA, if_neg (fun e => a e.1), gA_sA, if_neg (fun e => b e.2)]
  have q1 : gA q 1 p = gA ob 1 p + 1 := by rw [← hob]; simp [gA_sA]
  have q2 : ∀ x, gA q 2 x = gA ob 2 x := fun x => qA 2 x (by decide) (by decide)
  have q3 : ∀ x, gA q 3 x = gA ob 3 x := fun x => qA 3 x (by decide) (by decide)
  have q4 : ∀ x, gA q 4 x = gA ob 4 x := fun x => qA 4 x (by decide) (by decide)
  have q6 : ∀ x, gA q 6 x = gA ob 6 x := fun x => qA 6 x (by decide) (by decide)
  have q7 : gA q 7 = gA ob 7 := funext fun x => qA 7 x (by decide) (by decide)
  obtain ⟨r, c1, w1, e, h⟩ := pw_e (ob := q) hp hg (by rw [q3]; exact hh) (by rw [qI]; exact hT) (by rw [q3, q6]; exact hr)
  rw [e, Option.bind_some, ckn (m := 64) rfl i1]
  have hd := h.hd
  have rg := h.rg
  have ln := h.ln
  have c1l := h.c1l
  have c1g := h.c1g
  simp only [q2, q3, q4, q6, q7, qI] at hd rg ln c1l c1g
  have r8 : ∀ x, gA r 8 x = gA ob 8 x := fun x => (h.sa 8 x (by decide) (by decide) (by decide) (by decide) (by decide)).trans (qA 8 x (by decide) (by decide))
  have r5 : ∀ x, gA r 5 x = gA ob 5 x := fun x => (h.sa 5 x (by decide) (by decide) (by decide) (by decide) (by decide)).trans (qA 5 x (by decide) (by decide))
  have r1 : gA r 1 p = gA ob 1 p + 1 := (h.sa 1 p (by decide) (by decide) (by decide) (by decide) (by decide)).trans q1
  by_cases c : gA r 8 (p * 16 + g) = 0
  · rw [if_pos c, ckn (m := 64) rfl i1, ckn (m := 4) rfl hp, ckn (m := 4) rfl hp]
    generalize hz : sA (sA r 8 (p * 16 + g) 1) 5 p (gA r 5 p + 1) = z
    have zA : ∀ k x, ¬ k = 8 → ¬ k = 5 → gA z k x = gA r k x := fun k x a b => by rw [← hz, gA_sA, if_neg (fun e => b e.1), gA_sA, if_neg (fun e => a e.1)]
    have zI : ∀ k, gI z k = gI r k := fun k => by rw [← hz]; rfl
    refine ⟨z, c1, w1, rfl, fun k => (zI k).trans ((h.si k).trans (qI k)), ?_, ?_, ?_, ?_, ?_, ?_, c1l, c1g, ?_, ?_, ?_, ?_, ?_⟩
    · intro k x hk; rw [zA k x (by omega) (by omega), h.sa k x (by omega) (by omega) (by omega) (by omega) (by omega), qA k x (by omega) (by omega)]
    · intro k x hk hx
      have : gA z k x = gA r k x := by rw [← hz, gA_sA, if_neg (fun e => hx e.2), gA_sA, if_neg (by omega)]
      rw [this, h.so k x (by omega) (by omega) hx, qo k x (by omega) hx]
    · rw [zA 1 p (by decide) (by decide), r1]
    · rw [zA 3 p (by decide) (by decide), hd]
    · intro x; rw [zA 6 x (by decide) (by decide), rg]
    · rw [zA 2 p (by decide) (by decide), ln]
    · intro x; rw [zA 7 x (by decide) (by decide), h.cn]
    · rw [zA 4 p (by decide) (by decide), h.ws]
    · rw [← hz]; simp [gA_sA]
    · intro x hx; rw [← hz]; simp [gA_sA, hx, r8]
    · rw [← r8, if_pos c, ← hz]; simp [gA_sA, r5]
  · rw [if_neg c]
    refine ⟨r, c1, w1, rfl, fun k => (h.si k).trans (qI k), ?_, ?_, r1, hd, rg, ln, c1l, c1g, h.cn, h.ws, c, fun x _ => r8 x, ?_⟩
    · intro k x hk; rw [h.sa k x (by omega) (by omega) (by omega) (by omega) (by omega), qA k x (by omega) (by omega)]
    · intro k x hk hx; rw [h.so k x (by omega) (by omega) hx, qo k x (by omega) hx]
    · rw [← r8, if_neg c, r5]
theorem rr_e {ob : Rec} {p g : Int32} (hp : In 4 p) (hg : In 16 g) (hh : In 16 (gA ob 3 p)) (hT : ¬ gI ob 3 = 0) (hr : In 16 (gA ob 6 (p * 16 + gA ob 3 p))) (hf : In 32 (gA ob 9 (p * 16 + g))) :
    ∃ r c1 w1, X_recordReference ob p g = some r ∧ RR p g ob r c1 w1 := by
  have e1 := px hp hg
  have i1 : In 64 (p * 16 + g) := by rw [In, e1]; omega
  unfold X_recordReference; rw [ckn (m := 64) rfl i1, if_neg (nneg hf.1), ckn (m := 32) rfl hf]
  generalize hob : sA ob 13 (gA ob 9 (p * 16 + g)) 1 = q
  have qI : ∀ k, gI q k = gI ob k := fun k => by rw [← hob]; rfl
  have qA : ∀ k, ¬ k = 13 → gA q k = gA ob k := fun k a => funext fun x => by rw [← hob, gA_sA, if_neg (fun e => a e.1)]
  obtain ⟨r, c1, w1, e, h⟩ := rrb (ob := q) hp hg (by rw [qA 3 (by decide)]; exact hh) (by rw [qI]; exact hT) (by rw [qA 3 (by decide), qA 6 (by decide)]; exact hr)
  refine ⟨r, c1, w1, e, ?_⟩
  have h' := h
  obtain ⟨a1, a2, a3, a4, a5, a6, a7, a8, a9, a10, a11, a12, a13, a14⟩ := h'
  rw [qA 1 (by decide)] at a4
  rw [qA 3 (by decide), qI] at a5
  rw [qA 3 (by decide), qA 6 (by decide)] at a6
  rw [qA 2 (by decide), qI] at a7
  rw [qA 2 (by decide), qA 7 (by decide), qA 4 (by decide), qI] at a8
  rw [qA 2 (by decide), qA 7 (by decide), qA 4 (by decide), qA 3 (by decide), qA 6 (by decide), qI] at a9
  rw [qA 8 (by decide), qA 5 (by decide)] at a14
  refine ⟨fun k => (a1 k).trans (qI k), fun k x hk => (a2 k x hk).trans (by rw [qA k (by omega)]), fun k x hk hx => (a3 k x hk hx).trans (by rw [qA k (by omega)]), a4, a5, a6, a7, a8, a9, a10, a11, a12, fun x hx => (a13 x hx).trans (by rw [qA 8 (by decide)]), a14⟩
end pgc
section pgd
variable (NF : Nat)
def sc (ob : Rec) : Int32 := gA ob 0 0 + gA ob 0 1 + gA ob 0 2 + gA ob 0 3
abbrev LC (p : Int32) (ob r : Rec) : Prop := (∀ k, ¬ k = 5 → ¬ k = 6 → gI r k = gI ob k) ∧ (∀ k x, ¬ k = 0 → gA r k x = gA ob k x) ∧ (gA ob 0 p = 0 → gA r 0 p = 0) ∧ ((∀ q, In 4 q → gA ob 0 q = 0 ∨ gA ob 0 q = 1) → (∀ q, In 4 q → gA r 0 q = 0 ∨ gA r 0 q = 1) ∧ gI r 5 - gI r 6 - sc r = gI ob 5 - gI ob 6 - sc ob)
theorem LC.si {p : Int32} {ob r : Rec} (h : LC p ob r) : ∀ k, ¬ k = 5 → ¬ k = 6 → gI r k = gI ob k := h.1
theorem LC.sa {p : Int32} {ob r : Rec} (h : LC p ob r) : ∀ k x, ¬ k = 0 → gA r k x = gA ob k x := h.2.1
theorem LC.kp {p : Int32} {ob r : Rec} (h : LC p ob r) : gA ob 0 p = 0 → gA r 0 p = 0 := h.2.2.1
theorem LC.bl {p : Int32} {ob r : Rec} (h : LC p ob r) : (∀ q, In 4 q → gA ob 0 q = 0 ∨ gA ob 0 q = 1) → (∀ q, In 4 q → gA r 0 q = 0 ∨ gA r 0 q = 1) ∧ gI r 5 - gI r 6 - sc r = gI ob 5 - gI ob 6 - sc ob := h.2.2.2
theorem LC.rf (p : Int32) (ob : Rec) : LC p ob ob := ⟨fun _ _ _ => rfl, fun _ _ _ => rfl, id, fun h => ⟨h, rfl⟩⟩
theorem LC.tr {p : Int32} {a b c : Rec} (h : LC p a b) (g : LC p b c) : LC p a c :=
  ⟨fun k x y => (g.si k x y).trans (h.si k x y), fun k x y => (g.sa k x y).trans (h.sa k x y), fun x => g.kp (h.kp x), fun x => ⟨(g.bl (h.bl x).1).1, (g.bl (h.bl x).1).2.trans (h.bl x).2⟩⟩
theorem q4 {q : Int32} (h : In 4 q) : q = 0 ∨ q = 1 ∨ q = 2 ∨ q = 3 := by
  simp only [eq_i32, Int32.reduceToInt]; omega
theorem al3 (a b c : Int32) : a + (b + c) = b + (a + c) := by rw [← Int32.add_assoc, Int32.add_comm a b, Int32.add_assoc]
theorem arp1 (a b s t : Int32) (h : t = s + 1) : a + 1 - b - t = a - b - s := by
  subst h
  grind
theorem arp2 (a b s t : Int32) (h : s = t + 1) : a - (b + 1) - t = a - b - s := by
  subst h
  grind
theorem sc_up {ob : Rec} {q v : Int32} (hq : In 4 q) (h0 : gA ob 0 q = 0) (hv : v = 1) : sc (sA ob 0 q v) = sc ob + 1 := by
  unfold sc
  rcases q4 hq with rfl | rfl | rfl | rfl <;> simp [gA_sA, h0, hv] <;> grind
theorem sc_dn {ob : Rec} {q : Int32} (hq : In 4 q) (h0 : gA ob 0 q = 1) : sc ob = sc (sA ob 0 q 0) + 1 := by
  unfold sc
  rcases q4 hq with rfl | rfl | rfl | rfl <;> simp [gA_sA, h0] <;> grind
theorem sc_sI (ob : Rec) (k : Nat) (v : Int32) : sc (sI ob k v) = sc ob := rfl
theorem LC_s {p q : Int32} {ob : Rec} (hq : In 4 q) (hp : ¬ q = p) (h0 : gA ob 0 q = 0) : LC p ob (sI (sA ob 0 q 1) 5 (gI ob 5 + 1)) := by
  refine ⟨?_, ?_, ?_, ?_⟩
  · intro k a b; rw [gI_sI, if_neg a]; rfl
  · intro k x a; rw [gA_sI, gA_sA, if_neg (fun e => a e.1)]
  · intro e; rw [gA_sI, gA_sA, if_neg (fun e => hp e.2.symm)]; exact e
  · intro h
    refine ⟨fun t ht => ?_, ?_⟩
    · rw [gA_sI, gA_sA]
      by_cases c : t = q
      · rw [if_pos ⟨rfl, c⟩]; exact Or.inr rfl
      · rw [if_neg (fun e => c e.2)]; exact h t ht
    · rw [sc_sI]
      show gI ob 5 + 1 - gI ob 6 - _ = _
      exact arp1 _ _ _ _ (sc_up hq h0 rfl)
theorem LC_r {p q : Int32} {ob : Rec} (hq : In 4 q) (h0 : ¬ gA ob 0 q = 0) : LC p ob (sI (sA ob 0 q 0) 6 (gI ob 6 + 1)) := by
  refine ⟨?_, ?_, ?_, ?_⟩
  · intro k a b; rw [gI_sI, if_neg b]; rfl
  · intro k x a; rw [gA_sI, gA_sA, if_neg (fun e => a e.1)]
  · intro e; rw [gA_sI, gA_sA]; split
    · rfl
    · exact e
  · intro h
    refine ⟨fun t ht => ?_, ?_⟩
    · rw [gA_sI, gA_sA]
      by_cases c : t = q
      · rw [if_pos ⟨rfl, c⟩]; exact Or.inl rfl
      · rw [if_neg (fun e => c e.2)]; exact h t ht
    · rw [sc_sI]
      show gI ob 5 - (gI ob 6 + 1) - _ = _
      exact arp2 _ _ _ _ (sc_dn hq ((h q hq).resolve_left h0))
theorem at_e' (hNF : 70 < NF) {ob : Rec} (hP : (gI ob 0).toInt ≤ 4) : ∃ v, X_activeTotal NF ob = some v := by
  have l : ∀ (m fuel : Nat) (a i : Int32), m < fuel → 0 ≤ i.toInt → i.toInt ≤ 4 → 4 - i.toInt ≤ m → ∃ v, X_activeTotal_l4 NF ob fuel a i = some v := by
    intro m
    induction m with
    | zero =>
      intro fuel a i hfu h0 h1 h2
      obtain ⟨n, rfl⟩ : ∃ n, fuel = n + 1 := ⟨fuel - 1, by omega⟩
      refine ⟨a, ?_⟩
      show X_activeTotal_w4 NF ob _ a i = _
      unfold X_activeTotal_w4; rw [if_neg (by rw [lt_i]; omega)]
    | succ m ih =>
      intro fuel a i hfu h0 h1 h2
      obtain ⟨n, rfl⟩ : ∃ n, fuel = n + 1 := ⟨fuel - 1, by omega⟩
      show ∃ v, X_activeTotal_w4 NF ob (X_activeTotal_l4 NF ob n) a i = _
      unfold X_activeTotal_w4
      by_cases hc : i < gI ob 0
      · have hc' := lt_i.mp hc
        have ei := s1 (i := i) (by omega)
        rw [if_pos hc, ckn (m := 4) rfl ⟨h0, by omega⟩]
        by_cases d : gA ob 0 i = 0
        · rw [if_pos d, ckn (m := 4) rfl ⟨h0, by omega⟩]; exact ih n _ (i + 1) (by omega) (by omega) (by omega) (by omega)
        · rw [if_neg d]; exact ih n _ (i + 1) (by omega) (by omega) (by omega) (by omega)
      · rw [if_neg hc]; exact ⟨a, rfl⟩
  exact l 4 NF 0 0 (by omega) (by decide) (by decide) (by decide)
theorem pk_e (hNF : 70 < NF) {ob : Rec} {p : Int32} (hP : 1 ≤ (gI ob 0).toInt ∧ (gI ob 0).toInt ≤ 4) : ∃ v, X_pickProcessToSuspend NF ob p = some v ∧ (v < 0 ∨ (In 4 v ∧ ¬ v = p ∧ gA ob 0 v = 0)) := by
  have l : ∀ (m fuel : Nat) (i : Int32), m < fuel → -1 ≤ i.toInt → i.toInt < 4 → i.toInt + 1 ≤ m → ∃ v, X_pickProcessToSuspend_l7 NF ob fuel p i = some v ∧ (v < 0 ∨ (In 4 v ∧ ¬ v = p ∧ gA ob 0 v = 0)) := by
    intro m
    induction m with
    | zero =>
      intro fuel i hfu h0 h1 h2
      obtain ⟨n, rfl⟩ : ∃ n, fuel = n + 1 := ⟨fuel - 1, by omega⟩
      refine ⟨-1, ?_, Or.inl (by decide)⟩
      show X_pickProcessToSuspend_w7 NF ob _ p i = _
      unfold X_pickProcessToSuspend_w7; rw [if_pos (by rw [neg_i]; omega)]
    | succ m ih =>
      intro fuel i hfu h0 h1 h2
      obtain ⟨n, rfl⟩ : ∃ n, fuel = n + 1 := ⟨fuel - 1, by omega⟩
      show ∃ v, X_pickProcessToSuspend_w7 NF ob (X_pickProcessToSuspend_l7 NF ob n) p i = _ ∧ _
      unfold X_pickProcessToSuspend_w7
      by_cases hc : i < 0
      · rw [if_pos hc]; exact ⟨-1, rfl, Or.inl (by decide)⟩
      · have hc' := nneg' hc
        have ei : (i + (-1)).toInt = i.toInt - 1 := by
          rw [ad (by show -2147483648 ≤ i.toInt + -1 ∧ i.toInt + -1 < 2147483648; omega)]; rfl
        have nx := ih n (i + (-1)) (by omega) (by omega) (by omega) (by omega)
        rw [if_neg hc]
        by_cases d : i = p
        · rw [if_pos d]; exact nx
        · rw [if_neg d, ckn (m := 4) rfl ⟨hc', h1⟩]
          by_cases e : gA ob 0 i = 0
          · rw [if_pos e, ckn (m := 4) rfl ⟨hc', h1⟩]
            by_cases g : 0 < gA ob 4 i
            · rw [if_pos g]; exact ⟨i, rfl, Or.inr ⟨⟨hc', h1⟩, d, e⟩⟩
            · rw [if_neg g]; exact nx
          · rw [if_neg e]; exact nx
  have e : (gI ob 0 - 1).toInt = (gI ob 0).toInt - 1 := by
    rw [sb (by show -2147483648 ≤ (gI ob 0).toInt - 1 ∧ (gI ob 0).toInt - 1 < 2147483648; omega)]; rfl
  exact l 4 NF _ (by omega) (by omega) (by omega) (by omega)
theorem lc67 (hNF : 70 < NF) (p P : Int32) (hP : 1 ≤ P.toInt ∧ P.toInt ≤ 4) : ∀ (m fuel : Nat) (ob : Rec) (i : Int32), m < fuel → gI ob 0 = P → 0 ≤ i.toInt → i.toInt ≤ 4 → 4 - i.toInt ≤ m → ∃ r, X_loadControl_l67 NF fuel ob i = some r ∧ LC p ob r := by
  intro m
  induction m with
  | zero =>
    intro fuel ob i hfu h h0 h1 h2
    obtain ⟨n, rfl⟩ : ∃ n, fuel = n + 1 := ⟨fuel - 1, by omega⟩
    refine ⟨ob, ?_, LC.rf p ob⟩
    show X_loadControl_w67 NF _ ob i = _
    unfold X_loadControl_w67; rw [h, if_neg (by rw [lt_i]; omega)]
  | succ m ih =>
    intro fuel ob i hfu h h0 h1 h2
    obtain ⟨n, rfl⟩ : ∃ n, fuel = n + 1 := ⟨fuel - 1, by omega⟩
    show ∃ r, X_loadControl_w67 NF (X_loadControl_l67 NF n) ob i = _ ∧ _
    unfold X_loadControl_w67; rw [h]
    by_cases hc : i < P
    · have hc' := lt_i.mp hc
      have ei := s1 (i := i) (by omega)
      have hi : In 4 i := ⟨h0, by omega⟩
      have nx := fun ob' (e : gI ob' 0 = P) => ih n ob' (i + 1) (by omega) e (by omega) (by omega) (by omega)
      rw [if_pos hc, ckn (m := 4) rfl hi]
      by_cases d : gA ob 0 i = 0
      · rw [if_pos d]; exact nx ob h
      · obtain ⟨v, e⟩ := at_e' NF hNF (ob := ob) (by rw [h]; omega)
        rw [if_neg d, e, Option.bind_some, ckn (m := 4) rfl hi]
        by_cases g : gI ob 2 < v + gA ob 4 i
        · rw [if_pos g]; exact nx ob h
        · rw [if_neg g, ckn (m := 4) rfl hi]
          obtain ⟨r, a, b⟩ := nx (sI (sA ob 0 i 0) 6 (gI ob 6 + 1)) h
          exact ⟨r, a, (LC_r hi d).tr b⟩
    · rw [if_neg hc]; exact ⟨ob, rfl, LC.rf p ob⟩
theorem lc_e' (hNF : 70 < NF) {p : Int32} {ob : Rec} (hP : 1 ≤ (gI ob 0).toInt ∧ (gI ob 0).toInt ≤ 4) : ∃ r, X_loadControl NF ob p = some r ∧ LC p ob r := by
  have l : ∀ (m fuel : Nat) (ob : Rec) (P i : Int32), m < fuel → gI ob 0 = P → 1 ≤ P.toInt ∧ P.toInt ≤ 4 → 0 ≤ i.toInt → i.toInt ≤ 4 → 4 - i.toInt ≤ m → ∃ r, X_loadControl_l2 NF fuel ob p i = some r ∧ LC p ob r := by
    intro m
    induction m with
    | zero =>
      intro fuel ob P i hfu h hP h0 h1 h2
      obtain ⟨n, rfl⟩ : ∃ n, fuel = n + 1 := ⟨fuel - 1, by omega⟩
      show ∃ r, X_loadControl_w2 NF _ ob p i = _ ∧ _
      unfold X_loadControl_w2; rw [h, if_neg (by rw [lt_i]; omega)]
      exact lc67 NF hNF p P hP 4 NF ob 0 (by omega) h (by decide) (by decide) (by decide)
    | succ m ih =>
      intro fuel ob P i hfu h hP h0 h1 h2
      obtain ⟨n, rfl⟩ : ∃ n, fuel = n + 1 := ⟨fuel - 1, by omega⟩
      have fin := lc67 NF hNF p P hP 4 NF ob 0 (by omega) h (by decide) (by decide) (by decide)
      show ∃ r, X_loadControl_w2 NF (X_loadControl_l2 NF n) ob p i = _ ∧ _
      unfold X_loadControl_w2; rw [h]
      by_cases hc : i < P
      · have hc' := lt_i.mp hc
        have ei := s1 (i := i) (by omega)
        obtain ⟨v, e⟩ := at_e' NF hNF (ob := ob) (by rw [h]; omega)
        rw [if_pos hc, e, Option.bind_some]
        by_cases d : gI ob 2 < v
        · obtain ⟨q, e2, hq⟩ := pk_e NF hNF (ob := ob) (p := p) (by rw [h]; exact hP)
          rw [if_pos d, e2, Option.bind_some]
          by_cases g : q < 0
          · rw [if_pos g]; exact fin
          · have hq' := hq.resolve_left g
            rw [if_neg g, ckn (m := 4) rfl hq'.1]
            obtain ⟨r, a, b⟩ := ih n (sI (sA ob 0 q 1) 5 (gI ob 5 + 1)) P (i + 1) (by omega) h hP (by omega) (by omega) (by omega)
            exact ⟨r, a, (LC_s hq'.1 hq'.2.1 hq'.2.2).tr b⟩
        · rw [if_neg d]; exact fin
      · rw [if_neg hc]; exact fin
  exact l 4 NF ob _ 0 (by omega) rfl hP (by decide) (by decide) (by decide)
theorem vpy {ob : Rec} {p : Int32} (hp : In (gI ob 0).toInt p) : X_validPid ob p = some 1 := by
  unfold X_validPid; rw [if_neg (nneg hp.1), if_pos (lt_i.mpr hp.2)]
theorem ck_e {ob : Rec} (h : PI ob) {p a : Int32} (hp : In (gI ob 0).toInt p) (ha : In (4 * (gI ob 1).toInt) a) : X_check ob p a = some (if gA ob 0 p = 0 then 0 else 3) := by
  have hP := h.hP
  have hN := h.hN
  have e : (gI ob 1 * 4).toInt = (gI ob 1).toInt * 4 := ml (by show -2147483648 ≤ (gI ob 1).toInt * 4 ∧ (gI ob 1).toInt * 4 < 2147483648; omega)
  unfold X_check; rw [vpy hp, Option.bind_some, if_neg (by decide), if_neg (nneg ha.1), if_pos (by rw [lt_i, e]; omega), ckn (m := 4) rfl ⟨hp.1, by omega⟩]
  split <;> rfl
/-- what recordReference needs of the window -/
abbrev WB (ob : Rec) (p : Int32) : Prop := In 16 (gA ob 3 p) ∧ In 16 (gA ob 6 (p * 16 + gA ob 3 p))
theorem a4 {a : Int32} {N : Int} (hN : N ≤ 16) (ha : In (4 * N) a) : (a / 4).toInt = a.toInt / 4 ∧ (a % 4).toInt = a.toInt % 4 ∧ In N (a / 4) ∧ In 4 (a % 4) := by
  have e1 : (a / 4).toInt = a.toInt / 4 := dv (y := 4) ha.1 (by decide)
  have e2 : (a % 4).toInt = a.toInt % 4 := md (y := 4) ha.1 (by decide)
  refine ⟨e1, e2, ?_, ?_⟩
  · rw [In, e1]; omega
  · rw [In, e2]; omega
theorem st_e (hNF : 70 < NF) {ob : Rec} (h : PI ob) {p a v : Int32} (hp : In (gI ob 0).toInt p) (ha : In (4 * (gI ob 1).toInt) a) (hz : gA ob 0 p = 0) (hT : ¬ gI ob 3 = 0) (hw : WB ob p) :
    ∃ o1 o2 c1 w1 o3, X_store NF ob p a v = some (0, sI o3 4 0) ∧ (∀ k, ¬ k = 7 → gI o1 k = gI ob k) ∧ (∀ k x, k ≤ 8 → gA o1 k x = gA ob k x) ∧ RR p (a / 4) o1 o2 c1 w1 ∧ X_loadControl NF o2 p = some o3 ∧ LC p o2 o3 ∧ PI (sI o3 4 0) ∧ gA o3 0 p = 0 ∧
      ∀ y w, In 64 y → In 4 w → cont (sI o3 4 0) y w = if y = p * 16 + a / 4 ∧ w = a % 4 then v else cont ob y w := by
  have hP := h.hP
  have hN := h.hN
  have hF := h.hF
  obtain ⟨d1, d2, d3, d4⟩ := a4 (N := (gI ob 1).toInt) (by omega) ha
  obtain ⟨f, q, e, hf, kq, q9⟩ := er_e NF hNF h hp d3
  have hf64 : In 64 f := ⟨hf.1, by omega⟩
  have hf32 : In 32 f := ⟨hf.1, by omega⟩
  have exf := ix hf64 d4
  have exi := px (p := p) (g := a / 4) ⟨hp.1, by omega⟩ ⟨d3.1, by omega⟩
  have i1 : In 64 (p * 16 + a / 4) := by rw [In, exi]; omega
  unfold X_store
  rw [ck_e h hp ha, if_pos hz, Option.bind_some, if_pos rfl, e, bind2_some, ckn (m := 128) rfl (by rw [In, exf]; omega), ckn (m := 32) rfl hf32]
  generalize ho : sA (sA q 15 (f * 4 + a % 4) v) 14 f 1 = o1
  have oI : ∀ k, gI o1 k = gI q k := fun k => by rw [← ho]; rfl
  have oA : ∀ k x, ¬ k = 14 → ¬ k = 15 → gA o1 k x = gA q k x := fun k x b c => by rw [← ho, gA_sA, if_neg (fun e => b e.1), gA_sA, if_neg (fun e => c e.1)]
  have e9 : gA o1 9 = gA q 9 := funext fun x => oA 9 x (by decide) (by decide)
  have e10 : gA o1 10 = gA q 10 := funext fun x => oA 10 x (by decide) (by decide)
  have e12 : gA o1 12 = gA q 12 := funext fun x => oA 12 x (by decide) (by decide)
  have e16 : gA o1 16 = gA q 16 := funext fun x => oA 16 x (by decide) (by decide)
  have e17 : gA o1 17 = gA q 17 := funext fun x => oA 17 x (by decide) (by decide)
  obtain ⟨p1, p2⟩ := PM_st (fd' := gA o1 14) (fw' := gA o1 15) (v := v) (o := a % 4) kq.pi i1 q9 hf.1 (by rw [← ho]; simp [gA_sA]) (fun y n => by rw [← ho]; simp [gA_sA, n])
    (fun g w hg hw => by
      rw [← ho]
      by_cases n : g = f ∧ w = a % 4
      · rw [if_pos n, n.1, n.2]; simp [gA_sA]
      · rw [if_neg n, gA_sA, if_neg (fun e => absurd e.1 (by decide)), gA_sA, if_neg (fun e => n (ix_inj ⟨hg.1, by omega⟩ hf64 hw d4 e.2))])
  have po : PI o1 := by
    show PM (gI o1 0) (gI o1 1) (gI o1 2) (gI o1 7) (gA o1 9) (gA o1 10) (gA o1 12) (gA o1 14) (gA o1 15) (gA o1 16) (gA o1 17)
    rw [oI, oI, oI, oI, e9, e10, e12, e16, e17]; exact p1
  have s8 : ∀ k x, k ≤ 8 → gA o1 k x = gA ob k x := fun k x hk => (oA k x (by omega) (by omega)).trans (kq.sa k x hk)
  obtain ⟨o2, c1, w1, e2, rr⟩ := rr_e (ob := o1) (p := p) (g := a / 4) ⟨hp.1, by omega⟩ ⟨d3.1, by omega⟩ (by rw [s8 3 p (by omega)]; exact hw.1) (by rw [oI, kq.si 3 (by decide)]; exact hT) (by rw [s8 3 p (by omega), s8 6 _ (by omega)]; exact hw.2) (by rw [e9, q9]; exact hf32)
  rw [e2, Option.bind_some]
  obtain ⟨o3, e3, lc⟩ := lc_e' NF hNF (p := p) (ob := o2) (by rw [rr.si, oI, kq.si 0 (by decide)]; exact hP)
  rw [e3, Option.bind_some]
  have c3 : ∀ k x, k = 9 ∨ k = 10 ∨ k = 12 ∨ 14 ≤ k → gA (sI o3 4 0) k x = gA o1 k x := fun k x hk => (lc.sa k x (by omega)).trans (rr.sa k x (by omega))
  refine ⟨o1, o2, c1, w1, o3, rfl, fun k hk => (oI k).trans (kq.si k hk), s8, rr, e3, lc, ?_, ?_, ?_⟩
  · exact PI_c po (fun k hk => by rw [gI_sI, if_neg (by omega), lc.si k (by omega) (by omega), rr.si]) c3
  · exact lc.kp (by rw [rr.sa 0 p (by omega), s8 0 p (by omega)]; exact hz)
  · intro y w hy hw
    rw [cont_c c3]
    show ct (gA o1 9) (gA o1 10) (gA o1 15) (gA o1 17) y w = _
    rw [e9, e10, e17, p2 y w hy hw]
    split
    · rfl
    · exact kq.ct y w hy hw
theorem st_s {ob : Rec} (h : PI ob) {p a v : Int32} (hp : In (gI ob 0).toInt p) (ha : In (4 * (gI ob 1).toInt) a) (hz : ¬ gA ob 0 p = 0) : X_store NF ob p a v = some (3, sI ob 4 3) := by
  unfold X_store; rw [ck_e h hp ha, if_neg hz, Option.bind_some, if_neg (by decide)]
theorem ld_s {ob : Rec} (h : PI ob) {p a : Int32} (hp : In (gI ob 0).toInt p) (ha : In (4 * (gI ob 1).toInt) a) (hz : ¬ gA ob 0 p = 0) : X_load NF ob p a = some (-9223372036854775808, sI ob 4 3) := by
  unfold X_load; rw [ck_e h hp ha, if_neg hz, Option.bind_some, if_neg (by decide)]
theorem ld_e (hNF : 70 < NF) {ob : Rec} (h : PI ob) {p a : Int32} (hp : In (gI ob 0).toInt p) (ha : In (4 * (gI ob 1).toInt) a) (hz : gA ob 0 p = 0) (hT : ¬ gI ob 3 = 0) (hw : WB ob p) :
    ∃ o1 o2 c1 w1 o3, X_load NF ob p a = some ((cont ob (p * 16 + a / 4) (a % 4)).toInt64, sI o3 4 0) ∧ (∀ k, ¬ k = 7 → gI o1 k = gI ob k) ∧ (∀ k x, k ≤ 8 → gA o1 k x = gA ob k x) ∧ RR p (a / 4) o1 o2 c1 w1 ∧ X_loadControl NF o2 p = some o3 ∧ LC p o2 o3 ∧ PI (sI o3 4 0) ∧ gA o3 0 p = 0 ∧
      ∀ y w, In 64 y → In 4 w → cont (sI o3 4 0) y w = cont ob y w := by
  have hP := h.hP
  have hN := h.hN
  have hF := h.hF
  obtain ⟨d1, d2, d3, d4⟩ := a4 (N := (gI ob 1).toInt) (by omega) ha
  obtain ⟨f, q, e, hf, kq, q9⟩ := er_e NF hNF h hp d3
  have hf64 : In 64 f := ⟨hf.1, by omega⟩
  have hf32 : In 32 f := ⟨hf.1, by omega⟩
  have exf := ix hf64 d4
  have exi := px (p := p) (g := a / 4) ⟨hp.1, by omega⟩ ⟨d3.1, by omega⟩
  have i1 : In 64 (p * 16 + a / 4) := by rw [In, exi]; omega
  unfold X_load
  rw [ck_e h hp ha, if_pos hz, Option.bind_some, if_pos rfl, e, bind2_some, ckn (m := 128) rfl (by rw [In, exf]; omega)]
  obtain ⟨o2, c1, w1, e2, rr⟩ := rr_e (ob := q) (p := p) (g := a / 4) ⟨hp.1, by omega⟩ ⟨d3.1, by omega⟩ (by rw [kq.sa 3 p (by omega)]; exact hw.1) (by rw [kq.si 3 (by decide)]; exact hT) (by rw [kq.sa 3 p (by omega), kq.sa 6 _ (by omega)]; exact hw.2) (by rw [q9]; exact hf32)
  rw [e2, Option.bind_some]
  obtain ⟨o3, e3, lc⟩ := lc_e' NF hNF (p := p) (ob := o2) (by rw [rr.si, kq.si 0 (by decide)]; exact hP)
  rw [e3, Option.bind_some]
  have c3 : ∀ k x, k = 9 ∨ k = 10 ∨ k = 12 ∨ 14 ≤ k → gA (sI o3 4 0) k x = gA q k x := fun k x hk => (lc.sa k x (by omega)).trans (rr.sa k x (by omega))
  have ev : gA q 15 (f * 4 + a % 4) = cont ob (p * 16 + a / 4) (a % 4) := by
    rw [← kq.ct _ _ i1 d4]
    show _ = ct (gA q 9) (gA q 10) (gA q 15) (gA q 17) _ _
    unfold ct; rw [q9, if_neg (nneg hf.1)]
  refine ⟨q, o2, c1, w1, o3, by rw [ev], fun k hk => kq.si k hk, kq.sa, rr, e3, lc, ?_, ?_, ?_⟩
  · exact PI_c kq.pi (fun k hk => by rw [gI_sI, if_neg (by omega), lc.si k (by omega) (by omega), rr.si]) c3
  · exact lc.kp (by rw [rr.sa 0 p (by omega), kq.sa 0 p (by omega)]; exact hz)
  · intro y w hy hw
    rw [cont_c c3]; exact kq.ct y w hy hw
/-- one page dropped -/
abbrev DP (x : Int32) (ob r : Rec) : Prop := (PI r) ∧ (∀ y w, In 64 y → In 4 w → cont r y w = if y = x then 0 else cont ob y w) ∧ (∀ k, gI r k = gI ob k) ∧ (∀ k y, k ≤ 6 → gA r k y = gA ob k y) ∧ (∀ y, gA r 7 y = if y = x then 0 else gA ob 7 y) ∧ (∀ y, gA r 8 y = if y = x then 0 else gA ob 8 y)
theorem DP.pi {x : Int32} {ob r : Rec} (h : DP x ob r) : PI r := h.1
theorem DP.ct {x : Int32} {ob r : Rec} (h : DP x ob r) : ∀ y w, In 64 y → In 4 w → cont r y w = if y = x then 0 else cont ob y w := h.2.1
theorem DP.si {x : Int32} {ob r : Rec} (h : DP x ob r) : ∀ k, gI r k = gI ob k := h.2.2.1
theorem DP.sa {x : Int32} {ob r : Rec} (h : DP x ob r) : ∀ k y, k ≤ 6 → gA r k y = gA ob k y := h.2.2.2.1
theorem DP.s7 {x : Int32} {ob r : Rec} (h : DP x ob r) : ∀ y, gA r 7 y = if y = x then 0 else gA ob 7 y := h.2.2.2.2.1
theorem DP.s8 {x : Int32} {ob r : Rec} (h : DP x ob r) : ∀ y, gA r 8 y = if y = x then 0 else gA ob 8 y := h.2.2.2.2.2
theorem dp_e {ob : Rec} (h : PI ob) {x : Int32} (hx : In 64 x) : ∃ r, X_discardPage ob x = some r ∧ DP x ob r := by
  have hF := h.hF
  have fin : ∀ (o1 : Rec), (gA o1 10 x = gA ob 10 x) → PM (gI o1 0) (gI o1 1) (gI o1 2) (gI o1 7) (gA o1 9) (gA o1 10) (gA o1 12) (gA o1 14) (gA o1 15) (gA o1 16) (gA o1 17) → True := fun _ _ _ => trivial
  have b64 : ∀ o : Rec, X_discardPage_b64 o x = some (sA (sA (sA o 7 x 0) 8 x 0) 11 x 0) := fun o => by
    unfold X_discardPage_b64; rw [ckn (m := 64) rfl hx, ckn (m := 64) rfl hx, ckn (m := 64) rfl hx]
  have b39 : ∀ o : Rec, (∀ k, gI o k = gI ob k) → (∀ k y, ¬ k = 9 → ¬ k = 12 → ¬ k = 13 → ¬ k = 14 → gA o k y = gA ob k y) → gA o 9 x < 0 → (∀ y, ¬ y = x → gA o 9 y = gA ob 9 y) →
      (0 ≤ (gA ob 9 x).toInt → gA o 12 (gA ob 9 x) = -1) → (∀ y, (0 ≤ (gA ob 9 x).toInt → ¬ y = gA ob 9 x) → gA o 12 y = gA ob 12 y) → (∀ y, (0 ≤ (gA ob 9 x).toInt → ¬ y = gA ob 9 x) → gA o 14 y = gA ob 14 y) →
      ∃ r, X_discardPage_b39 o x = some r ∧ DP x ob r := by
    intro o oI oA p1 p2 f1 f2 f3
    have o10 : ∀ y, gA o 10 y = gA ob 10 y := fun y => oA 10 y (by decide) (by decide) (by decide) (by decide)
    have e15 : gA o 15 = gA ob 15 := funext fun y => oA 15 y (by decide) (by decide) (by decide) (by decide)
    have e17 : gA o 17 = gA ob 17 := funext fun y => oA 17 y (by decide) (by decide) (by decide) (by decide)
    unfold X_discardPage_b39; rw [ckn (m := 64) rfl hx, o10]
    by_cases c : gA ob 10 x < 0
    · rw [if_pos c, b64]
      generalize hr : sA (sA (sA o 7 x 0) 8 x 0) 11 x 0 = r
      have rI : ∀ k, gI r k = gI ob k := fun k => by rw [← hr]; exact oI k
      have rA : ∀ k y, ¬ k = 7 → ¬ k = 8 → ¬ k = 11 → gA r k y = gA o k y := fun k y a b d => by rw [← hr]; simp [gA_sA, a, b, d]
      have g : ∀ k, 12 ≤ k ∨ k = 9 ∨ k = 10 → gA r k = gA o k := fun k hk => funext fun y => rA k y (by omega) (by omega) (by omega)
      obtain ⟨z1, z2⟩ := PM_dis (pf' := gA o 9) (ps' := gA o 10) (fo' := gA o 12) (fd' := gA o 14) (su' := gA o 16) h hx p1 p2 (by rw [o10]; exact c) (fun y _ => o10 y) f1 f2 f3 (fun a => absurd c (nneg a)) (fun y _ => oA 16 y (by decide) (by decide) (by decide) (by decide))
      refine ⟨r, rfl, ⟨?_, ?_, rI, ?_, ?_, ?_⟩⟩
      · show PM (gI r 0) (gI r 1) (gI r 2) (gI r 7) (gA r 9) (gA r 10) (gA r 12) (gA r 14) (gA r 15) (gA r 16) (gA r 17)
        rw [rI, rI, rI, rI, g 9 (by omega), g 10 (by omega), g 12 (by omega), g 14 (by omega), g 15 (by omega), g 16 (by omega), g 17 (by omega), e15, e17]; exact z1
      · intro y w hy hw
        show ct (gA r 9) (gA r 10) (gA r 15) (gA r 17) y w = _
        rw [g 9 (by omega), g 10 (by omega), g 15 (by omega), g 17 (by omega), e15, e17]; exact z2 y w hy hw
      · intro k y hk; rw [rA k y (by omega) (by omega) (by omega), oA k y (by omega) (by omega) (by omega) (by omega)]
      · intro y; rw [← hr]; simp [gA_sA, oA 7 y]
      · intro y; rw [← hr]; simp [gA_sA, oA 8 y]
    · have sl := h.slt x hx (nneg' c)
      rw [if_neg c, ckn (m := 64) rfl sl.2.1, ckn (m := 64) rfl hx, b64]
      generalize hr : sA (sA (sA (sA (sA o 16 (gA ob 10 x) 0) 10 x (-1)) 7 x 0) 8 x 0) 11 x 0 = r
      have rI : ∀ k, gI r k = gI ob k := fun k => by rw [← hr]; exact oI k
      have rA : ∀ k y, ¬ k = 7 → ¬ k = 8 → ¬ k = 11 → ¬ k = 10 → ¬ k = 16 → gA r k y = gA o k y := fun k y a b d e f => by rw [← hr]; simp [gA_sA, a, b, d, e, f]
      have g : ∀ k, k = 12 ∨ k = 14 ∨ k = 15 ∨ k = 17 ∨ k = 9 → gA r k = gA o k := fun k hk => funext fun y => rA k y (by omega) (by omega) (by omega) (by omega) (by omega)
      obtain ⟨z1, z2⟩ := PM_dis (pf' := gA o 9) (ps' := gA r 10) (fo' := gA o 12) (fd' := gA o 14) (su' := gA r 16) h hx p1 p2 (by rw [← hr]; simp [gA_sA]) (fun y n => by rw [← hr]; simp [gA_sA, n, o10]) f1 f2 f3 (fun a => by rw [← hr]; simp [gA_sA]) (fun y n => by
        have : ¬ y = gA ob 10 x := n (nneg' c)
        rw [← hr]; simp [gA_sA, this, oA 16 y])
      refine ⟨r, rfl, ⟨?_, ?_, rI, ?_, ?_, ?_⟩⟩
      · show PM (gI r 0) (gI r 1) (gI r 2) (gI r 7) (gA r 9) (gA r 10) (gA r 12) (gA r 14) (gA r 15) (gA r 16) (gA r 17)
        rw [rI, rI, rI, rI, g 9 (by omega), g 12 (by omega), g 14 (by omega), g 15 (by omega), g 17 (by omega), e15, e17]; exact z1
      · intro y w hy hw
        show ct (gA r 9) (gA r 10) (gA r 15) (gA r 17) y w = _
        rw [g 9 (by omega), g 15 (by omega), g 17 (by omega), e15, e17]; exact z2 y w hy hw
      · intro k y hk; rw [rA k y (by omega) (by omega) (by omega) (by omega) (by omega), oA k y (by omega) (by omega) (by omega) (by omega)]
      · intro y; rw [← hr]; simp [gA_sA, oA 7 y]
      · intro y; rw [← hr]; simp [gA_sA, oA 8 y]
  unfold X_discardPage; rw [ckn (m := 64) rfl hx]
  by_cases c : gA ob 9 x < 0
  · rw [if_pos c]
    exact b39 ob (fun _ => rfl) (fun _ _ _ _ _ _ => rfl) c (fun _ _ => rfl) (fun a => absurd c (nneg a)) (fun _ _ => rfl) (fun _ _ => rfl)
  · have fr := h.frm x hx (nneg' c)
    have hf32 : In 32 (gA ob 9 x) := ⟨fr.1.1, by omega⟩
    rw [if_neg c, ckn (m := 32) rfl hf32, ckn (m := 32) rfl hf32, ckn (m := 32) rfl hf32, ckn (m := 64) rfl hx]
    refine b39 _ (fun _ => rfl) (fun k y a1 a2 a3 a4 => by simp [gA_sA, a1, a2, a3, a4]) (by simp [gA_sA]) (fun y n => by simp [gA_sA, n]) (fun _ => by simp [gA_sA]) (fun y n => ?_) (fun y n => ?_)
    · have : ¬ y = gA ob 9 x := n (nneg' c)
      simp [gA_sA, this]
    · have : ¬ y = gA ob 9 x := n (nneg' c)
      simp [gA_sA, this]
theorem ct_nv {ob : Rec} (h : PI ob) {y w : Int32} (hy : In 64 y) (hn : ¬ VI (gI ob 0) (gI ob 1) y) : cont ob y w = 0 := by
  show ct _ _ _ _ _ _ = _
  unfold ct
  rw [if_pos, if_pos]
  · refine Classical.byContradiction fun c => ?_
    exact hn (h.slt y hy (nneg' c)).1
  · refine Classical.byContradiction fun c => ?_
    have f := h.frm y hy (nneg' c)
    have o := h.own _ f.1 (by rw [f.2]; exact hy.1)
    rw [f.2] at o; exact hn o.1
/-- all pages of p dropped, up to its fields -/
abbrev DR (p : Int32) (ob r : Rec) : Prop := (PI r) ∧ (∀ y w, In 64 y → In 4 w → cont r y w = if y.toInt / 16 = p.toInt then 0 else cont ob y w) ∧ (∀ k, gI r k = gI ob k) ∧ (∀ k y, k ≤ 6 → gA r k y = gA ob k y) ∧ (∀ y, In 64 y → y.toInt % 16 < (gI ob 1).toInt → gA r 7 y = if y.toInt / 16 = p.toInt then 0 else gA ob 7 y) ∧ (∀ y, In 64 y → y.toInt % 16 < (gI ob 1).toInt → gA r 8 y = if y.toInt / 16 = p.toInt then 0 else gA ob 8 y) ∧ (∀ k y, k = 7 ∨ k = 8 → In 64 y → ¬ y.toInt % 16 < (gI ob 1).toInt → gA r k y = gA ob k y)
theorem DR.pi {p : Int32} {ob r : Rec} (h : DR p ob r) : PI r := h.1
theorem DR.ct {p : Int32} {ob r : Rec} (h : DR p ob r) : ∀ y w, In 64 y → In 4 w → cont r y w = if y.toInt / 16 = p.toInt then 0 else cont ob y w := h.2.1
theorem DR.si {p : Int32} {ob r : Rec} (h : DR p ob r) : ∀ k, gI r k = gI ob k := h.2.2.1
theorem DR.sa {p : Int32} {ob r : Rec} (h : DR p ob r) : ∀ k y, k ≤ 6 → gA r k y = gA ob k y := h.2.2.2.1
theorem DR.s7 {p : Int32} {ob r : Rec} (h : DR p ob r) : ∀ y, In 64 y → y.toInt % 16 < (gI ob 1).toInt → gA r 7 y = if y.toInt / 16 = p.toInt then 0 else gA ob 7 y := h.2.2.2.2.1
theorem DR.s8 {p : Int32} {ob r : Rec} (h : DR p ob r) : ∀ y, In 64 y → y.toInt % 16 < (gI ob 1).toInt → gA r 8 y = if y.toInt / 16 = p.toInt then 0 else gA ob 8 y := h.2.2.2.2.2.1
theorem DR.sn {p : Int32} {ob r : Rec} (h : DR p ob r) : ∀ k y, k = 7 ∨ k = 8 → In 64 y → ¬ y.toInt % 16 < (gI ob 1).toInt → gA r k y = gA ob k y := h.2.2.2.2.2.2
theorem rl_l {p : Int32} (N : Int32) (hN : 4 ≤ N.toInt ∧ N.toInt ≤ 16) (hp : In 4 p) : ∀ (m fuel : Nat) (ob : Rec) (i : Int32), m < fuel → PI ob → gI ob 1 = N → 0 ≤ i.toInt → i.toInt ≤ N.toInt → N.toInt - i.toInt ≤ m →
    ∃ (n : Nat) (r : Rec), X_release_l17 NF fuel ob p i = X_release_w17 NF (X_release_l17 NF n) r p N ∧ PI r ∧ (∀ k, gI r k = gI ob k) ∧ (∀ k y, k ≤ 6 → gA r k y = gA ob k y) ∧
      (∀ y w, In 64 y → In 4 w → cont r y w = if y.toInt / 16 = p.toInt ∧ i.toInt ≤ y.toInt % 16 ∧ y.toInt % 16 < N.toInt then 0 else cont ob y w) ∧
      (∀ k y, k = 7 ∨ k = 8 → In 64 y → gA r k y = if y.toInt / 16 = p.toInt ∧ i.toInt ≤ y.toInt % 16 ∧ y.toInt % 16 < N.toInt then 0 else gA ob k y) := by
  have fin : ∀ (n : Nat) (ob : Rec) (i : Int32), PI ob → i.toInt = N.toInt → ∃ (n' : Nat) (r : Rec), X_release_l17 NF (n + 1) ob p i = X_release_w17 NF (X_release_l17 NF n') r p N ∧ PI r ∧ (∀ k, gI r k = gI ob k) ∧ (∀ k y, k ≤ 6 → gA r k y = gA ob k y) ∧
      (∀ y w, In 64 y → In 4 w → cont r y w = if y.toInt / 16 = p.toInt ∧ i.toInt ≤ y.toInt % 16 ∧ y.toInt % 16 < N.toInt then 0 else cont ob y w) ∧
      (∀ k y, k = 7 ∨ k = 8 → In 64 y → gA r k y = if y.toInt / 16 = p.toInt ∧ i.toInt ≤ y.toInt % 16 ∧ y.toInt % 16 < N.toInt then 0 else gA ob k y) := by
    intro n ob i h e
    refine ⟨n, ob, ?_, h, fun _ => rfl, fun _ _ _ => rfl, fun y w _ _ => ?_, fun k y _ _ => ?_⟩
    · rw [show i = N from eq_i32.mpr e]; rfl
    · rw [if_neg (by omega)]
    · rw [if_neg (by omega)]
  intro m
  induction m with
  | zero =>
    intro fuel ob i hfu h h1 h0 h2 h3
    obtain ⟨n, rfl⟩ : ∃ n, fuel = n + 1 := ⟨fuel - 1, by omega⟩
    exact fin n ob i h (by omega)
  | succ m ih =>
    intro fuel ob i hfu h h1 h0 h2 h3
    obtain ⟨n, rfl⟩ : ∃ n, fuel = n + 1 := ⟨fuel - 1, by omega⟩
    by_cases hc : i.toInt < N.toInt
    · have ei := s1 (i := i) (by omega)
      have ex := px (p := p) (g := i) hp ⟨h0, by omega⟩
      have i1 : In 64 (p * 16 + i) := by rw [In, ex]; omega
      obtain ⟨q, e, d⟩ := dp_e h i1
      obtain ⟨n', r, a1, a2, a3, a4, a5, a6⟩ := ih n q (i + 1) (by omega) d.pi (by rw [d.si, h1]) (by omega) (by omega) (by omega)
      have yx : ∀ y : Int32, In 64 y → (y = p * 16 + i ↔ y.toInt / 16 = p.toInt ∧ y.toInt % 16 = i.toInt) := fun y hy => by
        rw [eq_i32, ex]; omega
      refine ⟨n', r, ?_, a2, fun k => (a3 k).trans (d.si k), fun k y hk => (a4 k y hk).trans (d.sa k y hk), fun y w hy hw => ?_, fun k y hk hy => ?_⟩
      · rw [← a1]
        show X_release_w17 NF _ ob p i = _
        unfold X_release_w17; rw [h1, if_pos (lt_i.mpr hc), e, Option.bind_some]
      · rw [a5 y w hy hw, d.ct y w hy hw]
        have := yx y hy
        by_cases c1 : y = p * 16 + i
        · rw [if_pos c1, if_pos (show y.toInt / 16 = p.toInt ∧ i.toInt ≤ y.toInt % 16 ∧ y.toInt % 16 < N.toInt by have := this.mp c1; omega)]; split <;> rfl
        · rw [if_neg c1]
          have c2 : ¬ (y.toInt / 16 = p.toInt ∧ y.toInt % 16 = i.toInt) := fun e => c1 (this.mpr e)
          by_cases c3 : y.toInt / 16 = p.toInt ∧ i.toInt ≤ y.toInt % 16 ∧ y.toInt % 16 < N.toInt
          · rw [if_pos c3, if_pos (by omega)]
          · rw [if_neg c3, if_neg (by omega)]
      · rw [a6 k y hk hy]
        have := yx y hy
        have dk : gA q k y = if y = p * 16 + i then 0 else gA ob k y := by
          rcases hk with rfl | rfl
          · exact d.s7 y
          · exact d.s8 y
        rw [dk]
        by_cases c1 : y = p * 16 + i
        · rw [if_pos c1, if_pos (show y.toInt / 16 = p.toInt ∧ i.toInt ≤ y.toInt % 16 ∧ y.toInt % 16 < N.toInt by have := this.mp c1; omega)]; split <;> rfl
        · rw [if_neg c1]
          have c2 : ¬ (y.toInt / 16 = p.toInt ∧ y.toInt % 16 = i.toInt) := fun e => c1 (this.mpr e)
          by_cases c3 : y.toInt / 16 = p.toInt ∧ i.toInt ≤ y.toInt % 16 ∧ y.toInt % 16 < N.toInt
          · rw [if_pos c3, if_pos (by omega)]
          · rw [if_neg c3, if_neg (by omega)]
    · exact fin n ob i h (by omega)
theorem rl_e (hNF : 70 < NF) {ob : Rec} (h : PI ob) {p : Int32} (hp : In (gI ob 0).toInt p) :
    ∃ o1 o2 o3, X_release NF ob p = some (0, sI o3 4 0) ∧ DR p ob o1 ∧ sA (sA (sA (sA (sA (sA o1 1 p 0) 2 p 0) 3 p 0) 4 p 0) 5 p 0) 0 p 0 = o2 ∧ X_loadControl NF o2 p = some o3 ∧ LC p o2 o3 ∧ PI (sI o3 4 0) ∧ gA o3 0 p = 0 ∧
      ∀ y w, In 64 y → In 4 w → cont (sI o3 4 0) y w = if y.toInt / 16 = p.toInt then 0 else cont ob y w := by
  have hP := h.hP
  have hN := h.hN
  have hp4 : In 4 p := ⟨hp.1, by omega⟩
  obtain ⟨n, o1, a1, a2, a3, a4, a5, a6⟩ := rl_l NF (gI ob 1) hN hp4 16 NF ob 0 (by omega) h rfl (by decide) (by show (0 : Int) ≤ _; omega) (by show _ - (0 : Int) ≤ _; omega)
  have z0 : (0 : Int32).toInt = 0 := rfl
  have d : DR p ob o1 := by
    refine ⟨a2, ?_, a3, a4, ?_, ?_, ?_⟩
    · intro y w hy hw
      rw [a5 y w hy hw, z0]
      by_cases c : y.toInt / 16 = p.toInt
      · rw [if_pos c]
        by_cases c2 : y.toInt % 16 < (gI ob 1).toInt
        · rw [if_pos ⟨c, by omega, c2⟩]
        · rw [if_neg (fun e => c2 e.2.2)]; exact ct_nv h hy (fun v => c2 v.2.2)
      · rw [if_neg c, if_neg (fun e => c e.1)]
    · intro y hy c2
      rw [a6 7 y (by omega) hy, z0]
      by_cases c : y.toInt / 16 = p.toInt
      · rw [if_pos c, if_pos ⟨c, by omega, c2⟩]
      · rw [if_neg c, if_neg (fun e => c e.1)]
    · intro y hy c2
      rw [a6 8 y (by omega) hy, z0]
      by_cases c : y.toInt / 16 = p.toInt
      · rw [if_pos c, if_pos ⟨c, by omega, c2⟩]
      · rw [if_neg c, if_neg (fun e => c e.1)]
    · intro k y hk hy c2
      rw [a6 k y hk hy, if_neg (fun e => c2 e.2.2)]
  unfold X_release; rw [vpy hp, Option.bind_some, if_neg (by decide), a1]
  unfold X_release_w17
  rw [a3 1, if_neg (by rw [lt_i]; omega), ckn (m := 4) rfl hp4, ckn (m := 4) rfl hp4, ckn (m := 4) rfl hp4, ckn (m := 4) rfl hp4, ckn (m := 4) rfl hp4, ckn (m := 4) rfl hp4]
  obtain ⟨o3, e3, lc⟩ := lc_e' NF hNF (p := p) (ob := sA (sA (sA (sA (sA (sA o1 1 p 0) 2 p 0) 3 p 0) 4 p 0) 5 p 0) 0 p 0) (by show 1 ≤ (gI o1 0).toInt ∧ (gI o1 0).toInt ≤ 4; rw [a3]; exact hP)
  rw [e3, Option.bind_some]
  generalize hs : sA (sA (sA (sA (sA (sA o1 1 p 0) 2 p 0) 3 p 0) 4 p 0) 5 p 0) 0 p 0 = o2 at *
  have sA' : ∀ k x, 6 ≤ k → gA o2 k x = gA o1 k x := fun k x hk => by
    rw [← hs]; simp [gA_sA, show ¬ k = 0 by omega, show ¬ k = 1 by omega, show ¬ k = 2 by omega, show ¬ k = 3 by omega, show ¬ k = 4 by omega, show ¬ k = 5 by omega]
  have sI' : ∀ k, gI o2 k = gI o1 k := fun k => by rw [← hs]; rfl
  have c3 : ∀ k x, k = 9 ∨ k = 10 ∨ k = 12 ∨ 14 ≤ k → gA (sI o3 4 0) k x = gA o1 k x := fun k x hk => (lc.sa k x (by omega)).trans (sA' k x (by omega))
  refine ⟨o1, o2, o3, rfl, d, hs, e3, lc, ?_, ?_, ?_⟩
  · exact PI_c a2 (fun k hk => by rw [gI_sI, if_neg (by omega), lc.si k (by omega) (by omega), sI']) c3
  · exact lc.kp (by rw [← hs]; simp [gA_sA])
  · intro y w hy hw
    rw [cont_c c3]; exact d.ct y w hy hw
end pgd
theorem i247 (NF : Nat) : ∀ (m fuel : Nat) (ob : Rec) (i : Int32), m < fuel → 0 ≤ i.toInt → i.toInt ≤ 32 → 32 - i.toInt ≤ m → ∃ r, X_init_l247 NF fuel ob i = some r ∧ r.1 = ob.1 ∧ (∀ (k : Nat) (x : Int32), ¬ k = 12 → gA r k x = gA ob k x) ∧ (∀ x : Int32, i.toInt ≤ x.toInt → x.toInt < 32 → gA r 12 x = -1) ∧ (∀ x : Int32, x.toInt < i.toInt → gA r 12 x = gA ob 12 x) := by
  intro m
  induction m with
  | zero =>
    intro fuel ob i hf h0 h1 h2
    obtain ⟨n, rfl⟩ : ∃ n, fuel = n + 1 := ⟨fuel - 1, by omega⟩
    exact ⟨ob, by show X_init_w247 NF _ ob i = _; unfold X_init_w247; rw [if_neg (nltn (m := 32) rfl (by omega))], rfl, fun _ _ _ => rfl, fun x a b => absurd b (by omega), fun _ _ => rfl⟩
  | succ m ih =>
    intro fuel ob i hf h0 h1 h2
    obtain ⟨n, rfl⟩ : ∃ n, fuel = n + 1 := ⟨fuel - 1, by omega⟩
    by_cases hc : i.toInt < 32
    · have ei := s1 (i := i) (by omega)
      obtain ⟨r, h, r1, r2, r3, r4⟩ := ih n (sA ob 12 i (-1)) (i + 1) (by omega) (by omega) (by omega) (by omega)
      refine ⟨r, ?_, r1, ?_, ?_, ?_⟩
      · rw [← h]
        show X_init_w247 NF _ ob i = _
        unfold X_init_w247; rw [if_pos (ltn (m := 32) rfl hc), ckn (m := 32) rfl ⟨h0, hc⟩]
      · intro k x hk; rw [r2 k x hk, gA_sA, if_neg (fun h => hk h.1)]
      · intro x a b
        by_cases c : x = i
        · rw [r4 x (by rw [c]; omega), c, gA_sA, if_pos ⟨rfl, rfl⟩]
        · have : x.toInt ≠ i.toInt := fun h => c (eq_i32.mpr h)
          exact r3 x (by omega) b
      · intro x a
        rw [r4 x (by omega), gA_sA, if_neg (fun h => by rw [h.2] at a; omega)]
    · exact ⟨ob, by show X_init_w247 NF _ ob i = _; unfold X_init_w247; rw [if_neg (nltn (m := 32) rfl hc)], rfl, fun _ _ _ => rfl, fun x a b => absurd b (by omega), fun _ _ => rfl⟩
theorem i215 (NF : Nat) (hNF : 70 < NF) : ∀ (m fuel : Nat) (ob : Rec) (i : Int32), m < fuel → 0 ≤ i.toInt → i.toInt ≤ 64 → 64 - i.toInt ≤ m → ∃ r, X_init_l215 NF fuel ob i = some r ∧ r.1 = ob.1 ∧ (∀ (k : Nat) (x : Int32), ¬ k = 9 → ¬ k = 10 → ¬ k = 12 → gA r k x = gA ob k x) ∧ (∀ x : Int32, i.toInt ≤ x.toInt → x.toInt < 64 → gA r 9 x = -1 ∧ gA r 10 x = -1) ∧ (∀ x : Int32, x.toInt < i.toInt → gA r 9 x = gA ob 9 x ∧ gA r 10 x = gA ob 10 x) ∧ (∀ x, In 32 x → gA r 12 x = -1) := by
  have base : ∀ (n : Nat) (ob : Rec) (i : Int32), ¬ i.toInt < 64 → ∃ r, X_init_l215 NF (n + 1) ob i = some r ∧ r.1 = ob.1 ∧ (∀ (k : Nat) (x : Int32), ¬ k = 9 → ¬ k = 10 → ¬ k = 12 → gA r k x = gA ob k x) ∧ (∀ x : Int32, i.toInt ≤ x.toInt → x.toInt < 64 → gA r 9 x = -1 ∧ gA r 10 x = -1) ∧ (∀ x : Int32, x.toInt < i.toInt → gA r 9 x = gA ob 9 x ∧ gA r 10 x = gA ob 10 x) ∧ (∀ x, In 32 x → gA r 12 x = -1) := by
    intro n ob i hi
    obtain ⟨r, h, r1, r2, r3, -⟩ := i247 NF 32 NF ob 0 (by omega) (by decide) (by decide) (by decide)
    refine ⟨r, ?_, r1, fun k x _ _ hk => r2 k x hk, fun x a b => absurd b (by omega), fun x _ => ⟨r2 9 x (by decide), r2 10 x (by decide)⟩, fun x hx => r3 x hx.1 hx.2⟩
    show X_init_w215 NF _ ob i = _
    unfold X_init_w215; rw [if_neg (nltn (m := 64) rfl hi)]; exact h
  intro m
  induction m with
  | zero =>
    intro fuel ob i hf h0 h1 h2
    obtain ⟨n, rfl⟩ : ∃ n, fuel = n + 1 := ⟨fuel - 1, by omega⟩
    exact base n ob i (by omega)
  | succ m ih =>
    intro fuel ob i hf h0 h1 h2
    obtain ⟨n, rfl⟩ : ∃ n, fuel = n + 1 := ⟨fuel - 1, by omega⟩
    by_cases hc : i.toInt < 64
    · have ei := s1 (i := i) (by omega)
      obtain ⟨r, h, r1, r2, r3, r4, r5⟩ := ih n (sA (sA ob 9 i (-1)) 10 i (-1)) (i + 1) (by omega) (by omega) (by omega) (by omega)
      refine ⟨r, ?_, r1, ?_, ?_, ?_, r5⟩
      · rw [← h]
        show X_init_w215 NF _ ob i = _
        unfold X_init_w215; rw [if_pos (ltn (m := 64) rfl hc), ckn (m := 64) rfl ⟨h0, hc⟩, ckn (m := 64) rfl ⟨h0, hc⟩]
      · intro k x a b c; rw [r2 k x a b c, gA_sA, if_neg (fun h => b h.1), gA_sA, if_neg (fun h => a h.1)]
      · intro x a b
        by_cases c : x = i
        · have := r4 x (by rw [c]; omega)
          rw [this.1, this.2, c]
          exact ⟨by rw [gA_sA, if_neg (fun h => absurd h.1 (by decide)), gA_sA, if_pos ⟨rfl, rfl⟩], by rw [gA_sA, if_pos ⟨rfl, rfl⟩]⟩
        · have : x.toInt ≠ i.toInt := fun h => c (eq_i32.mpr h)
          exact r3 x (by omega) b
      · intro x a
        have := r4 x (by omega)
        have ne : ¬ x = i := fun h => by rw [h] at a; omega
        rw [this.1, this.2]
        exact ⟨by rw [gA_sA, if_neg (fun h => ne h.2), gA_sA, if_neg (fun h => ne h.2)], by rw [gA_sA, if_neg (fun h => ne h.2), gA_sA, if_neg (fun h => ne h.2)]⟩
    · exact base n ob i hc
theorem cl_e {ob : Rec} {v lo hi : Int32} (h : lo.toInt ≤ v.toInt ∧ v.toInt ≤ hi.toInt) : X_clamp ob v lo hi = some v := by
  unfold X_clamp; rw [if_neg (by rw [lt_i]; omega), if_neg (by rw [lt_i]; omega)]
theorem ini (NF : Nat) (hNF : 70 < NF) {P N F T : Int32} (hP : 1 ≤ P.toInt ∧ P.toInt ≤ 4) (hN : 4 ≤ N.toInt ∧ N.toInt ≤ 16) (hF : 4 ≤ F.toInt ∧ F.toInt ≤ 32) (hT : 1 ≤ T.toInt ∧ T.toInt ≤ 16) :
    ∃ Q, X_init NF P N F T = some Q ∧ (gI Q 0 = P ∧ gI Q 1 = N ∧ gI Q 2 = F ∧ gI Q 3 = T ∧ (∀ k, 4 ≤ k → gI Q k = 0)) ∧ (∀ (k : Nat) (x : Int32), k ≤ 8 → gA Q k x = 0) ∧ PI Q ∧ (∀ y w, In 64 y → cont Q y w = 0) := by
  obtain ⟨r, h, r1, r2, r3, -, r5⟩ := i215 NF hNF 64 NF (sI (sI (sI (sI (sI (sI (sI (sI zrec 0 P) 1 N) 2 F) 3 T) 4 0) 5 0) 6 0) 7 0) 0 (by omega) (by decide) (by decide) (by decide)
  have rI : ∀ k, gI r k = gI (sI (sI (sI (sI (sI (sI (sI (sI zrec 0 P) 1 N) 2 F) 3 T) 4 0) 5 0) 6 0) 7 0) k := fun k => by unfold gI; rw [r1]
  have g9 : ∀ x, In 64 x → gA r 9 x = -1 := fun x hx => (r3 x hx.1 hx.2).1
  have g10 : ∀ x, In 64 x → gA r 10 x = -1 := fun x hx => (r3 x hx.1 hx.2).2
  have m1 : ¬ (0 : Int) ≤ (-1 : Int32).toInt := by decide
  have i0 : gI r 0 = P := rI 0
  have i1 : gI r 1 = N := rI 1
  have i2 : gI r 2 = F := rI 2
  have i3 : gI r 3 = T := rI 3
  have i4 : ∀ k, 4 ≤ k → gI r k = 0 := fun k hk => by
    rw [rI]; simp [gI_sI, gI_z, show ¬ k = 0 by omega, show ¬ k = 1 by omega, show ¬ k = 2 by omega, show ¬ k = 3 by omega]
  refine ⟨r, ?_, ⟨i0, i1, i2, i3, i4⟩, fun k x hk => (r2 k x (by omega) (by omega) (by omega)).trans rfl, ⟨by rw [i0]; exact hP, by rw [i1]; exact hN, by rw [i2]; exact hF, by rw [i2, i4 7 (by omega)]; exact ⟨by decide, by show (0 : Int) < _; omega⟩, ?_, ?_, ?_, ?_, ?_, ?_⟩, ?_⟩
  · unfold X_init
    rw [cl_e (lo := 1) (hi := 4) hP, Option.bind_some, cl_e (lo := 4) (hi := 16) hN, Option.bind_some, cl_e (lo := 4) (hi := 32) hF, Option.bind_some, cl_e (lo := 1) (hi := 16) hT, Option.bind_some]
    exact h
  · intro f hf h0; rw [i2] at hf; rw [r5 f ⟨hf.1, by omega⟩] at h0; exact absurd h0 m1
  · intro x hx h0; rw [g9 x hx] at h0; exact absurd h0 m1
  · intro x hx h0; rw [g10 x hx] at h0; exact absurd h0 m1
  · intro x y hx _ h0; rw [g10 x hx] at h0; exact absurd h0 m1
  · apply cN_eq
    intro i hi
    rw [g10 (n32 i) ⟨by rw [nt i (by omega)]; omega, by rw [nt i (by omega)]; omega⟩, r2 16 _ (by decide) (by decide) (by decide)]
    rfl
  · intro f hf h0; rw [i2] at hf; rw [r5 f ⟨hf.1, by omega⟩] at h0; exact absurd h0 m1
  · intro y w hy
    show ct _ _ _ _ _ _ = _
    unfold ct; rw [g9 y hy, g10 y hy, if_pos (by decide), if_pos (by decide)]
def sN (f : Nat → Nat) : Nat → Nat
  | 0 => 0
  | n + 1 => sN f n + f n
theorem sN_eq {f g : Nat → Nat} : ∀ n, (∀ i, i < n → f i = g i) → sN f n = sN g n
  | 0, _ => rfl
  | n + 1, h => by
    show sN f n + f n = sN g n + g n
    rw [sN_eq n (fun i hi => h i (by omega)), h n (by omega)]
theorem sN_set {f g : Nat → Nat} {j : Nat} : ∀ n, j < n → (∀ i, i < n → ¬ i = j → g i = f i) → sN g n + f j = sN f n + g j
  | 0, h, _ => absurd h (by omega)
  | n + 1, h, e => by
    show sN g n + g n + f j = sN f n + f n + g j
    by_cases c : j = n
    · subst c
      rw [sN_eq j (fun i hi => e i (by omega) (by omega))]; omega
    · have := sN_set n (by omega) (fun i hi => e i (by omega))
      rw [e n (by omega) (fun h => c h.symm)]; omega
theorem cN_b (f : Nat → Bool) : ∀ n, cN f n ≤ n
  | 0 => Nat.le_refl 0
  | n + 1 => by
    have := cN_b f n
    show cN f n + _ ≤ n + 1
    split <;> omega
theorem cN_pos {f : Nat → Bool} {j : Nat} (n : Nat) (hj : j < n) (fj : f j = true) : 1 ≤ cN f n := by
  have z : ∀ n, cN (fun _ => false) n = 0 := fun n => by induction n with
    | zero => rfl
    | succ n ih => show cN (fun _ => false) n + _ = 0; rw [ih]; rfl
  have := cN_lt (f := fun _ => false) (g := f) n hj rfl fj (fun _ _ e => by simp at e)
  rw [z] at this; exact this
theorem w_add {c c' : Nat → Int32} {w w' : Int32} {L : Int} {g : Nat} (hg : g < 16) (hc : ∀ i, i < 16 → 0 ≤ (c i).toInt ∧ (c i).toInt < 1000) (hc' : ∀ i, i < 16 → c' i = if i = g then c i + 1 else c i)
    (hw : w.toInt = (cN (fun i => decide (0 < (c i).toInt)) 16 : Nat)) (hL : L = w.toInt + (sN (fun i => (c i).toInt.toNat - 1) 16 : Nat)) (hw' : w' = if c g = 0 then w + 1 else w) :
    w'.toInt = (cN (fun i => decide (0 < (c' i).toInt)) 16 : Nat) ∧ L + 1 = w'.toInt + (sN (fun i => (c' i).toInt.toNat - 1) 16 : Nat) := by
  have e1 : (c' g).toInt = (c g).toInt + 1 := by rw [hc' g hg, if_pos rfl, s1 (by have := hc g hg; omega)]
  have b := cN_b (fun i => decide (0 < (c i).toInt)) 16
  have hcg := hc g hg
  have ss := sN_set (f := fun i => (c i).toInt.toNat - 1) (g := fun i => (c' i).toInt.toNat - 1) (j := g) 16 hg (fun i hi n => by
    show (c' i).toInt.toNat - 1 = _
    rw [hc' i hi, if_neg n])
  simp only [e1] at ss
  by_cases z : c g = 0
  · have z' : (c g).toInt = 0 := by rw [z]; rfl
    rw [if_pos z] at hw'
    have ew : w'.toInt = w.toInt + 1 := by rw [hw', s1 (by omega)]
    have cc := cN_set (f := fun i => decide (0 < (c i).toInt)) (g := fun i => decide (0 < (c' i).toInt)) (j := g) (by simp [z']) (by simp; omega) 16 hg (fun i hi n => by
      show decide (0 < (c' i).toInt) = _
      rw [hc' i hi, if_neg n])
    rw [z'] at ss
    constructor
    · rw [ew, cc, hw]; omega
    · rw [ew, hL]; omega
  · have z' : ¬ (c g).toInt = 0 := fun e => z (eq_i32.mpr e)
    rw [if_neg z] at hw'
    rw [hw']
    have cc := cN_eq (f := fun i => decide (0 < (c i).toInt)) (g := fun i => decide (0 < (c' i).toInt)) 16 (fun i hi => by
      by_cases n : i = g
      · subst n
        have x1 : 0 < (c i).toInt := by omega
        have x2 : 0 < (c' i).toInt := by omega
        rw [decide_eq_true x1, decide_eq_true x2]
      · show _ = decide (0 < (c' i).toInt)
        rw [hc' i hi, if_neg n])
    rw [← cc]
    exact ⟨hw, by rw [hL]; omega⟩
theorem w_del {c c' : Nat → Int32} {w w' : Int32} {L : Int} {g : Nat} (hg : g < 16) (h1 : 1 ≤ (c g).toInt ∧ (c g).toInt < 1000) (hc' : ∀ i, i < 16 → c' i = if i = g then c i - 1 else c i)
    (hw : w.toInt = (cN (fun i => decide (0 < (c i).toInt)) 16 : Nat)) (hL : L = w.toInt + (sN (fun i => (c i).toInt.toNat - 1) 16 : Nat)) (hw' : w' = if c' g = 0 then w - 1 else w) :
    w'.toInt = (cN (fun i => decide (0 < (c' i).toInt)) 16 : Nat) ∧ L - 1 = w'.toInt + (sN (fun i => (c' i).toInt.toNat - 1) 16 : Nat) := by
  have e1 : (c' g).toInt = (c g).toInt - 1 := by
    rw [hc' g hg, if_pos rfl, sb (by show -2147483648 ≤ (c g).toInt - 1 ∧ (c g).toInt - 1 < 2147483648; omega)]; rfl
  have b := cN_b (fun i => decide (0 < (c i).toInt)) 16
  have ss := sN_set (f := fun i => (c i).toInt.toNat - 1) (g := fun i => (c' i).toInt.toNat - 1) (j := g) 16 hg (fun i hi n => by
    show (c' i).toInt.toNat - 1 = _
    rw [hc' i hi, if_neg n])
  simp only [e1] at ss
  by_cases z : c' g = 0
  · have z' : (c' g).toInt = 0 := by rw [z]; rfl
    have z2 : (c g).toInt = 1 := by omega
    rw [if_pos z] at hw'
    have cc := cN_set (f := fun i => decide (0 < (c' i).toInt)) (g := fun i => decide (0 < (c i).toInt)) (j := g) (by simp [z']) (by simp; omega) 16 hg (fun i hi n => by
      show _ = decide (0 < (c' i).toInt)
      rw [hc' i hi, if_neg n])
    have ew : w'.toInt = w.toInt - 1 := by
      rw [hw', sb (by show -2147483648 ≤ w.toInt - 1 ∧ w.toInt - 1 < 2147483648; omega)]; rfl
    rw [z2] at ss
    constructor
    · rw [ew, hw, cc]; omega
    · rw [ew, hL]; omega
  · have z' : ¬ (c' g).toInt = 0 := fun e => z (eq_i32.mpr e)
    rw [if_neg z] at hw'
    rw [hw']
    have cc := cN_eq (f := fun i => decide (0 < (c i).toInt)) (g := fun i => decide (0 < (c' i).toInt)) 16 (fun i hi => by
      by_cases n : i = g
      · subst n
        have x1 : 0 < (c i).toInt := by omega
        have x2 : 0 < (c' i).toInt := by omega
        rw [decide_eq_true x1, decide_eq_true x2]
      · show _ = decide (0 < (c' i).toInt)
        rw [hc' i hi, if_neg n])
    rw [← cc]
    exact ⟨hw, by rw [hL]; omega⟩
theorem ni {i n : Nat} (h : i < n) (hn : n ≤ 1000) : In (n : Int) (n32 i) := by
  rw [In, nt i (by omega)]; omega
theorem n32_inj {i j : Nat} (hi : i < 1000) (hj : j < 1000) (e : n32 i = n32 j) : i = j := by
  have := congrArg Int32.toInt e
  rw [nt i (by omega), nt j (by omega)] at this; omega
theorem pin {p g : Int32} {i : Nat} (hp : In 4 p) (hg : In 16 g) (hi : i < 16) : p * 16 + n32 i = p * 16 + g ↔ i = g.toInt.toNat := by
  constructor
  · intro e
    have := (px_inj hp hp (ni (n := 16) hi (by omega)) hg e).2
    rw [← this, nt i (by omega)]; omega
  · intro e; rw [e, n32_t g hg.1]
abbrev WI (ob : Rec) (p : Int32) : Prop := (In (gI ob 3).toInt (gA ob 3 p)) ∧ (0 ≤ (gA ob 2 p).toInt ∧ (gA ob 2 p).toInt ≤ (gI ob 3).toInt) ∧ ((gA ob 2 p).toInt < (gI ob 3).toInt → gA ob 3 p = gA ob 2 p) ∧ (∀ j, In 16 j → In 16 (gA ob 6 (p * 16 + j))) ∧ (∀ g, In 16 g → (gA ob 7 (p * 16 + g)).toInt = (cN (fun j => decide (gA ob 6 (p * 16 + n32 j) = g)) (gA ob 2 p).toInt.toNat : Nat)) ∧ ((gA ob 4 p).toInt = (cN (fun g => decide (0 < (gA ob 7 (p * 16 + n32 g)).toInt)) 16 : Nat)) ∧ ((gA ob 2 p).toInt = (gA ob 4 p).toInt + (sN (fun g => (gA ob 7 (p * 16 + n32 g)).toInt.toNat - 1) 16 : Nat)) ∧ ((gA ob 5 p).toInt = (cN (fun g => decide (¬ gA ob 8 (p * 16 + n32 g) = 0)) 16 : Nat)) ∧ (∀ g, In 16 g → 0 < (gA ob 7 (p * 16 + g)).toInt → ¬ gA ob 8 (p * 16 + g) = 0) ∧ (0 ≤ (gA ob 1 p).toInt ∧ (gA ob 2 p).toInt ≤ (gA ob 1 p).toInt ∧ (gA ob 5 p).toInt ≤ (gA ob 1 p).toInt)
theorem WI.hh {ob : Rec} {p : Int32} (h : WI ob p) : In (gI ob 3).toInt (gA ob 3 p) := h.1
theorem WI.hl {ob : Rec} {p : Int32} (h : WI ob p) : 0 ≤ (gA ob 2 p).toInt ∧ (gA ob 2 p).toInt ≤ (gI ob 3).toInt := h.2.1
theorem WI.lh {ob : Rec} {p : Int32} (h : WI ob p) : (gA ob 2 p).toInt < (gI ob 3).toInt → gA ob 3 p = gA ob 2 p := h.2.2.1
theorem WI.rg {ob : Rec} {p : Int32} (h : WI ob p) : ∀ j, In 16 j → In 16 (gA ob 6 (p * 16 + j)) := h.2.2.2.1
theorem WI.cn {ob : Rec} {p : Int32} (h : WI ob p) : ∀ g, In 16 g → (gA ob 7 (p * 16 + g)).toInt = (cN (fun j => decide (gA ob 6 (p * 16 + n32 j) = g)) (gA ob 2 p).toInt.toNat : Nat) := h.2.2.2.2.1
theorem WI.ws {ob : Rec} {p : Int32} (h : WI ob p) : (gA ob 4 p).toInt = (cN (fun g => decide (0 < (gA ob 7 (p * 16 + n32 g)).toInt)) 16 : Nat) := h.2.2.2.2.2.1
theorem WI.sl {ob : Rec} {p : Int32} (h : WI ob p) : (gA ob 2 p).toInt = (gA ob 4 p).toInt + (sN (fun g => (gA ob 7 (p * 16 + n32 g)).toInt.toNat - 1) 16 : Nat) := h.2.2.2.2.2.2.1
theorem WI.tc {ob : Rec} {p : Int32} (h : WI ob p) : (gA ob 5 p).toInt = (cN (fun g => decide (¬ gA ob 8 (p * 16 + n32 g) = 0)) 16 : Nat) := h.2.2.2.2.2.2.2.1
theorem WI.wt {ob : Rec} {p : Int32} (h : WI ob p) : ∀ g, In 16 g → 0 < (gA ob 7 (p * 16 + g)).toInt → ¬ gA ob 8 (p * 16 + g) = 0 := h.2.2.2.2.2.2.2.2.1
theorem WI.vt {ob : Rec} {p : Int32} (h : WI ob p) : 0 ≤ (gA ob 1 p).toInt ∧ (gA ob 2 p).toInt ≤ (gA ob 1 p).toInt ∧ (gA ob 5 p).toInt ≤ (gA ob 1 p).toInt := h.2.2.2.2.2.2.2.2.2
theorem WI_c {ob r : Rec} {p : Int32} (h : WI ob p) (hT : (gI ob 3).toInt ≤ 16) (h3 : gI r 3 = gI ob 3) (hA : ∀ k, 1 ≤ k → k ≤ 5 → gA r k p = gA ob k p) (hB : ∀ k j, 6 ≤ k → k ≤ 8 → In 16 j → gA r k (p * 16 + j) = gA ob k (p * 16 + j)) : WI r p := by
  obtain ⟨a1, a2, a3, a4, a5, a6, a7, a8, a9, a10⟩ := h
  have n16 : ∀ i, i < 16 → In 16 (n32 i) := fun i hi => ni (n := 16) hi (by omega)
  refine ⟨?_, ?_, ?_, ?_, ?_, ?_, ?_, ?_, ?_, ?_⟩
  · rw [h3, hA 3 (by omega) (by omega)]; exact a1
  · rw [h3, hA 2 (by omega) (by omega)]; exact a2
  · rw [h3, hA 2 (by omega) (by omega), hA 3 (by omega) (by omega)]; exact a3
  · intro j hj; rw [hB 6 j (by omega) (by omega) hj]; exact a4 j hj
  · intro g hg; rw [hB 7 g (by omega) (by omega) hg, hA 2 (by omega) (by omega), a5 g hg]
    congr 1
    apply cN_eq
    intro i hi
    rw [hB 6 (n32 i) (by omega) (by omega) (n16 i (by omega))]
  · rw [hA 4 (by omega) (by omega), a6]
    congr 1
    apply cN_eq
    intro i hi
    rw [hB 7 (n32 i) (by omega) (by omega) (n16 i hi)]
  · rw [hA 4 (by omega) (by omega), hA 2 (by omega) (by omega), a7]
    congr 2
    apply sN_eq
    intro i hi
    rw [hB 7 (n32 i) (by omega) (by omega) (n16 i hi)]
  · rw [hA 5 (by omega) (by omega), a8]
    congr 1
    apply cN_eq
    intro i hi
    rw [hB 8 (n32 i) (by omega) (by omega) (n16 i hi)]
  · intro g hg; rw [hB 7 g (by omega) (by omega) hg, hB 8 g (by omega) (by omega) hg]; exact a9 g hg
  · rw [hA 1 (by omega) (by omega), hA 2 (by omega) (by omega), hA 5 (by omega) (by omega)]; exact a10
/-- the window after a reference -/
theorem WI_rr {ob r : Rec} {p g w1 : Int32} {c1 : Int32 → Int32} (hT : 1 ≤ (gI ob 3).toInt ∧ (gI ob 3).toInt ≤ 16) (hp : In 4 p) (hg : In 16 g) (h : WI ob p) (hv : (gA ob 1 p).toInt < 1000) (rr : RR p g ob r c1 w1) : WI r p ∧ 0 < (gA r 7 (p * 16 + g)).toInt := by
  obtain ⟨a1, a2, a3, a4, a5, a6, a7, a8, a9, a10⟩ := h
  have n16 : ∀ i, i < 16 → In 16 (n32 i) := fun i hi => ni (n := 16) hi (by omega)
  have cb : ∀ y, In 16 y → 0 ≤ (gA ob 7 (p * 16 + y)).toInt ∧ (gA ob 7 (p * 16 + y)).toInt ≤ 16 := fun y hy => by
    rw [a5 y hy]
    have := cN_b (fun j => decide (gA ob 6 (p * 16 + n32 j) = y)) (gA ob 2 p).toInt.toNat
    omega
  have hg16 : g.toInt.toNat < 16 := by omega
  -- the state between
  have mid : (∀ i, i < 16 → 0 ≤ (c1 (p * 16 + n32 i)).toInt ∧ (c1 (p * 16 + n32 i)).toInt ≤ (gA ob 7 (p * 16 + n32 i)).toInt) ∧
      w1.toInt = (cN (fun i => decide (0 < (c1 (p * 16 + n32 i)).toInt)) 16 : Nat) ∧ (gA r 2 p).toInt - 1 = w1.toInt + (sN (fun i => (c1 (p * 16 + n32 i)).toInt.toNat - 1) 16 : Nat) ∧
      (0 ≤ (gA r 2 p).toInt ∧ (gA r 2 p).toInt ≤ (gI ob 3).toInt) ∧ (gA r 2 p).toInt ≤ (gA ob 2 p).toInt + 1 ∧ ((gA r 2 p).toInt < (gI ob 3).toInt → gA r 3 p = gA r 2 p) ∧
      (∀ y, In 16 y → (cN (fun j => decide (gA r 6 (p * 16 + n32 j) = y)) (gA r 2 p).toInt.toNat : Int) = (c1 (p * 16 + y)).toInt + if y = g then 1 else 0) := by
    by_cases c : gA ob 2 p < gI ob 3
    · have c' := lt_i.mp c
      obtain ⟨e1, e2⟩ := rr.c1l c
      have ln := rr.ln
      rw [if_pos c] at ln
      have el : (gA r 2 p).toInt = (gA ob 2 p).toInt + 1 := by rw [ln, s1 (by omega)]
      have hd := a3 c'
      rw [e1, e2]
      refine ⟨fun i hi => ⟨(cb _ (n16 i hi)).1, Int.le_refl _⟩, a6, by rw [el]; omega, by omega, by omega, ?_, ?_⟩
      · intro lt
        rw [rr.hd, ln, hd]
        apply eq_i32.mpr
        have e := s1 (i := gA ob 2 p) (by omega)
        rw [md (by omega) (by omega), Int.emod_eq_of_lt (by omega) (by omega)]
      · intro y hy
        have en : (gA r 2 p).toInt.toNat = (gA ob 2 p).toInt.toNat + 1 := by omega
        rw [en]
        show ((cN (fun j => decide (gA r 6 (p * 16 + n32 j) = y)) (gA ob 2 p).toInt.toNat + (if decide (gA r 6 (p * 16 + n32 (gA ob 2 p).toInt.toNat) = y) = true then 1 else 0) : Nat) : Int) = _
        have q1 : cN (fun j => decide (gA r 6 (p * 16 + n32 j) = y)) (gA ob 2 p).toInt.toNat = cN (fun j => decide (gA ob 6 (p * 16 + n32 j) = y)) (gA ob 2 p).toInt.toNat := by
          apply cN_eq
          intro i hi
          rw [rr.rg, if_neg]
          intro e
          rw [hd, pin hp ⟨a2.1, by omega⟩ (by omega)] at e; omega
        have q2 : gA r 6 (p * 16 + n32 (gA ob 2 p).toInt.toNat) = g := by
          rw [rr.rg, n32_t _ a2.1, hd, if_pos rfl]
        rw [q1, q2, a5 y hy]
        by_cases d : y = g
        · rw [if_pos d, if_pos (by simp [d])]; omega
        · rw [if_neg d, if_neg (by simp only [decide_eq_true_eq]; exact fun e => d e.symm)]; omega
    · have c' : ¬ (gA ob 2 p).toInt < (gI ob 3).toInt := fun e => c (lt_i.mpr e)
      obtain ⟨e1, e2⟩ := rr.c1g c
      have ln := rr.ln
      rw [if_neg c] at ln
      have hh16 : In 16 (gA ob 3 p) := ⟨a1.1, by omega⟩
      have ho := a4 _ hh16
      generalize hold : gA ob 6 (p * 16 + gA ob 3 p) = o at *
      have on : o.toInt.toNat < 16 := by omega
      have hhn : (gA ob 3 p).toInt.toNat < (gA ob 2 p).toInt.toNat := by omega
      have c1o : 1 ≤ (gA ob 7 (p * 16 + o)).toInt := by
        rw [a5 o ho]
        have := cN_pos (f := fun j => decide (gA ob 6 (p * 16 + n32 j) = o)) (j := (gA ob 3 p).toInt.toNat) _ hhn (by simp only [decide_eq_true_eq]; rw [n32_t _ a1.1, hold])
        omega
      have e1' : ∀ i, i < 16 → c1 (p * 16 + n32 i) = if i = o.toInt.toNat then gA ob 7 (p * 16 + n32 i) - 1 else gA ob 7 (p * 16 + n32 i) := fun i hi => by
        rw [e1]
        by_cases d : i = o.toInt.toNat
        · rw [if_pos d, if_pos ((pin hp ho hi).mpr d)]
        · rw [if_neg d, if_neg (fun e => d ((pin hp ho hi).mp e))]
      have ot : n32 o.toInt.toNat = o := n32_t o ho.1
      have del := w_del (c := fun i => gA ob 7 (p * 16 + n32 i)) (c' := fun i => c1 (p * 16 + n32 i)) (w := gA ob 4 p) (w' := w1) (L := (gA ob 2 p).toInt) (g := o.toInt.toNat) on (by simp only [ot]; exact ⟨c1o, by have := cb o ho; omega⟩) e1' a6 a7 (by simp only [ot]; exact e2)
      have c1t : ∀ y, In 16 y → (c1 (p * 16 + y)).toInt = (gA ob 7 (p * 16 + y)).toInt - if y = o then 1 else 0 := by
        intro y hy
        rw [e1]
        by_cases d : y = o
        · rw [if_pos (by rw [d]), if_pos d, sb (by rw [d]; have := cb o ho; show -2147483648 ≤ (gA ob 7 (p * 16 + o)).toInt - 1 ∧ (gA ob 7 (p * 16 + o)).toInt - 1 < 2147483648; omega)]; rfl
        · rw [if_neg (fun e => d (px_inj hp hp hy ho e).2), if_neg d]; omega
      refine ⟨fun i hi => ?_, del.1, by rw [ln]; exact del.2, by rw [ln]; exact a2, by rw [ln]; omega, fun lt => absurd lt (by rw [ln]; omega), ?_⟩
      · have := cb _ (n16 i hi)
        rw [c1t _ (n16 i hi)]
        by_cases d : n32 i = o
        · rw [if_pos d, d]; have := cb o ho; omega
        · rw [if_neg d]; omega
      · intro y hy
        rw [ln, c1t y hy, a5 y hy]
        have m0 : cN (fun j => decide (gA ob 6 (p * 16 + n32 j) = y)) (gA ob 2 p).toInt.toNat = cN (fun j => if j = (gA ob 3 p).toInt.toNat then false else decide (gA ob 6 (p * 16 + n32 j) = y)) (gA ob 2 p).toInt.toNat + if y = o then 1 else 0 := by
          by_cases d : y = o
          · rw [if_pos d]
            refine cN_set (j := (gA ob 3 p).toInt.toNat) (by simp) (by simp only [decide_eq_true_eq]; rw [n32_t _ a1.1, hold, d]) _ hhn (fun i _ n => by
              show decide _ = if _ then _ else _
              rw [if_neg n])
          · rw [if_neg d, Nat.add_zero]
            apply cN_eq
            intro i hi
            by_cases n : i = (gA ob 3 p).toInt.toNat
            · rw [if_pos n, n, n32_t _ a1.1, hold]; exact decide_eq_false (fun e => d e.symm)
            · rw [if_neg n]
        have m1 : cN (fun j => decide (gA r 6 (p * 16 + n32 j) = y)) (gA ob 2 p).toInt.toNat = cN (fun j => if j = (gA ob 3 p).toInt.toNat then false else decide (gA ob 6 (p * 16 + n32 j) = y)) (gA ob 2 p).toInt.toNat + if y = g then 1 else 0 := by
          have rgi : ∀ i, i < (gA ob 2 p).toInt.toNat → ¬ i = (gA ob 3 p).toInt.toNat → gA r 6 (p * 16 + n32 i) = gA ob 6 (p * 16 + n32 i) := fun i hi n => by
            rw [rr.rg, if_neg (fun e => n ((pin hp hh16 (by omega)).mp e))]
          have rgh : gA r 6 (p * 16 + n32 (gA ob 3 p).toInt.toNat) = g := by rw [rr.rg, n32_t _ a1.1, if_pos rfl]
          by_cases d : y = g
          · rw [if_pos d]
            refine cN_set (j := (gA ob 3 p).toInt.toNat) (by simp) (by simp only [decide_eq_true_eq]; rw [rgh, d]) _ hhn (fun i hi n => by
              show decide _ = if _ then _ else _
              rw [if_neg n, rgi i hi n])
          · rw [if_neg d, Nat.add_zero]
            apply cN_eq
            intro i hi
            by_cases n : i = (gA ob 3 p).toInt.toNat
            · rw [if_pos n, n, rgh]; exact decide_eq_false (fun e => d e.symm)
            · rw [if_neg n, rgi i hi n]
        rw [m1, m0]
        generalize cN (fun j => if j = (gA ob 3 p).toInt.toNat then false else decide (gA ob 6 (p * 16 + n32 j) = y)) (gA ob 2 p).toInt.toNat = X
        by_cases d1 : y = o
        · by_cases d2 : y = g
          · simp only [if_pos d1, if_pos d2]; omega
          · simp only [if_pos d1, if_neg d2]; omega
        · by_cases d2 : y = g
          · simp only [if_neg d1, if_pos d2]; omega
          · simp only [if_neg d1, if_neg d2]; omega
  obtain ⟨m1, m2, m3, m4, m5, m6, m7⟩ := mid
  have gt : n32 g.toInt.toNat = g := n32_t g hg.1
  have r7 : ∀ i, i < 16 → gA r 7 (p * 16 + n32 i) = if i = g.toInt.toNat then c1 (p * 16 + n32 i) + 1 else c1 (p * 16 + n32 i) := fun i hi => by
    rw [rr.cn]
    by_cases d : i = g.toInt.toNat
    · rw [if_pos d, if_pos ((pin hp hg hi).mpr d)]
    · rw [if_neg d, if_neg (fun e => d ((pin hp hg hi).mp e))]
  have add := w_add (c := fun i => c1 (p * 16 + n32 i)) (c' := fun i => gA r 7 (p * 16 + n32 i)) (w := w1) (w' := gA r 4 p) (L := (gA r 2 p).toInt - 1) (g := g.toInt.toNat) hg16 (fun i hi => by have := m1 i hi; have := cb _ (n16 i hi); omega) r7 m2 m3 (by simp only [gt]; exact rr.ws)
  have mg := m1 g.toInt.toNat hg16
  rw [gt] at mg
  have cbg := cb g hg
  have r7g : (gA r 7 (p * 16 + g)).toInt = (c1 (p * 16 + g)).toInt + 1 := by
    rw [rr.cn, if_pos rfl, s1 (by omega)]
  have evt : (gA r 1 p).toInt = (gA ob 1 p).toInt + 1 := by rw [rr.vt, s1 (by omega)]
  have tcb := cN_b (fun g => decide (¬ gA ob 8 (p * 16 + n32 g) = 0)) 16
  have tcs : (gA r 5 p).toInt = (cN (fun g => decide (¬ gA r 8 (p * 16 + n32 g) = 0)) 16 : Nat) ∧ (gA r 5 p).toInt ≤ (gA ob 5 p).toInt + 1 := by
    by_cases d : gA ob 8 (p * 16 + g) = 0
    · have e := rr.tc
      rw [if_pos d] at e
      have e' : (gA r 5 p).toInt = (gA ob 5 p).toInt + 1 := by rw [e, s1 (by omega)]
      refine ⟨?_, by omega⟩
      have cc := cN_set (f := fun g => decide (¬ gA ob 8 (p * 16 + n32 g) = 0)) (g := fun g => decide (¬ gA r 8 (p * 16 + n32 g) = 0)) (j := g.toInt.toNat) (by simp only [gt]; simp [d]) (by simp only [gt]; simp [rr.tn]) 16 hg16 (fun i hi n => by
        show decide _ = decide _
        rw [rr.ts _ (fun e => n ((pin hp hg hi).mp e))])
      rw [e', a8, cc]; omega
    · have e := rr.tc
      rw [if_neg d] at e
      refine ⟨?_, by rw [e]; omega⟩
      rw [e, a8]
      congr 1
      apply cN_eq
      intro i hi
      by_cases n : i = g.toInt.toNat
      · rw [n, gt]; simp [d, rr.tn]
      · rw [rr.ts _ (fun e => n ((pin hp hg hi).mp e))]
  refine ⟨⟨?_, ?_, ?_, ?_, ?_, add.1, ?_, tcs.1, ?_, ?_⟩, by rw [r7g]; omega⟩
  · rw [rr.si, rr.hd]
    have e := s1 (i := gA ob 3 p) (by omega)
    rw [In, md (by omega) (by omega)]
    exact ⟨Int.emod_nonneg _ (by omega), Int.emod_lt_of_pos _ (by omega)⟩
  · rw [rr.si]; exact m4
  · rw [rr.si]; exact m6
  · intro j hj
    rw [rr.rg]
    split
    · exact hg
    · exact a4 j hj
  · intro y hy
    rw [m7 y hy]
    by_cases d : y = g
    · rw [if_pos d, d, r7g]
    · rw [if_neg d, rr.cn, if_neg (fun e => d (px_inj hp hp hy hg e).2)]; omega
  · rw [← add.2]; omega
  · intro y hy h0
    by_cases d : y = g
    · rw [d]; exact rr.tn
    · have ne : ¬ p * 16 + y = p * 16 + g := fun e => d (px_inj hp hp hy hg e).2
      rw [rr.cn, if_neg ne] at h0
      rw [rr.ts _ ne]
      have := m1 y.toInt.toNat (by omega)
      rw [n32_t y hy.1] at this
      exact a9 y hy (by omega)
  · rw [evt]; have := tcs.2; omega
/-- another process keeps its window -/
theorem WI_rro {ob r : Rec} {p q g w1 : Int32} {c1 : Int32 → Int32} (hT : (gI ob 3).toInt ≤ 16) (hp : In 4 p) (hq : In 4 q) (hg : In 16 g) (hh : In 16 (gA ob 3 p)) (ho : In 16 (gA ob 6 (p * 16 + gA ob 3 p))) (ne : ¬ q = p) (h : WI ob q) (rr : RR p g ob r c1 w1) : WI r q := by
  refine WI_c h hT (rr.si 3) (fun k _ hk => rr.so k q (by omega) ne) (fun k j h6 h8 hj => ?_)
  have nx : ∀ y, In 16 y → ¬ q * 16 + j = p * 16 + y := fun y hy e => ne (px_inj hq hp hj hy e).1
  have : k = 6 ∨ k = 7 ∨ k = 8 := by omega
  rcases this with rfl | rfl | rfl
  · rw [rr.rg, if_neg (nx _ hh)]
  · rw [rr.cn, if_neg (nx _ hg)]
    by_cases c : gA ob 2 p < gI ob 3
    · rw [(rr.c1l c).1]
    · rw [(rr.c1g c).1, if_neg (nx _ ho)]
  · rw [rr.ts _ (nx _ hg)]
theorem WI_b {ob : Rec} {p : Int32} (h : WI ob p) (hT : (gI ob 3).toInt ≤ 16) : WB ob p :=
  have a : In 16 (gA ob 3 p) := ⟨h.hh.1, by have := h.hh.2; omega⟩
  ⟨a, h.rg _ a⟩
/-- an empty window -/
theorem WI_0 {ob : Rec} {p : Int32} (hT : 1 ≤ (gI ob 3).toInt) (hA : ∀ k, 1 ≤ k → k ≤ 5 → gA ob k p = 0) (h6 : ∀ j, In 16 j → In 16 (gA ob 6 (p * 16 + j))) (hB : ∀ k j, 7 ≤ k → k ≤ 8 → In 16 j → gA ob k (p * 16 + j) = 0) : WI ob p := by
  have n16 : ∀ i, i < 16 → In 16 (n32 i) := fun i hi => ni (n := 16) hi (by omega)
  have z : (0 : Int32).toInt = 0 := rfl
  have cz : ∀ n, cN (fun _ => false) n = 0 := fun n => by induction n with
    | zero => rfl
    | succ n ih => show cN (fun _ => false) n + _ = 0; rw [ih]; rfl
  have sz : ∀ n, sN (fun _ => 0) n = 0 := fun n => by induction n with
    | zero => rfl
    | succ n ih => show sN (fun _ => 0) n + 0 = 0; rw [ih]
  refine ⟨?_, ?_, ?_, h6, ?_, ?_, ?_, ?_, ?_, ?_⟩
  · rw [hA 3 (by omega) (by omega), In, z]; omega
  · rw [hA 2 (by omega) (by omega), z]; omega
  · intro _; rw [hA 2 (by omega) (by omega), hA 3 (by omega) (by omega)]
  · intro g hg; rw [hB 7 g (by omega) (by omega) hg, hA 2 (by omega) (by omega)]; rfl
  · rw [hA 4 (by omega) (by omega), cN_eq (g := fun _ => false) 16 (fun i hi => by rw [hB 7 _ (by omega) (by omega) (n16 i hi)]; rfl), cz]; rfl
  · rw [hA 4 (by omega) (by omega), hA 2 (by omega) (by omega), sN_eq (g := fun _ => 0) 16 (fun i hi => by rw [hB 7 _ (by omega) (by omega) (n16 i hi)]; rfl), sz]; rfl
  · rw [hA 5 (by omega) (by omega), cN_eq (g := fun _ => false) 16 (fun i hi => by rw [hB 8 _ (by omega) (by omega) (n16 i hi)]; rfl), cz]; rfl
  · intro g hg h0; rw [hB 7 g (by omega) (by omega) hg] at h0; exact absurd h0 (by decide)
  · rw [hA 1 (by omega) (by omega), hA 2 (by omega) (by omega), hA 5 (by omega) (by omega)]; decide
/-- a process's own sums -/
theorem WI_le {ob : Rec} {p : Int32} (h : WI ob p) : 0 ≤ (gA ob 4 p).toInt ∧ (gA ob 4 p).toInt ≤ (gI ob 3).toInt ∧ (gA ob 4 p).toInt ≤ (gA ob 1 p).toInt ∧ (gA ob 4 p).toInt ≤ (gA ob 5 p).toInt ∧ (gA ob 5 p).toInt ≤ 16 ∧ (gA ob 5 p).toInt ≤ (gA ob 1 p).toInt := by
  have n16 : ∀ i, i < 16 → In 16 (n32 i) := fun i hi => ni (n := 16) hi (by omega)
  have a := h.sl
  have b := h.hl
  have c := h.vt
  have d := h.ws
  have e := h.tc
  have f := cN_b (fun g => decide (¬ gA ob 8 (p * 16 + n32 g) = 0)) 16
  have g := cN_le (f := fun g => decide (0 < (gA ob 7 (p * 16 + n32 g)).toInt)) (g := fun g => decide (¬ gA ob 8 (p * 16 + n32 g) = 0)) 16 (fun i hi e => by
    simp only [decide_eq_true_eq] at e ⊢
    exact h.wt _ (n16 i hi) e)
  omega
def ps (f : Nat → Int32) : Nat → Int32
  | 0 => 0
  | n + 1 => ps f n + f n
theorem rw_e {ob : Rec} (h : PI ob) {x w : Int32} (hx : In 64 x) (hw : In 4 w) : X_readWord ob x w = some (cont ob x w) := by
  have hF := h.hF
  unfold X_readWord
  show _ = some (ct (gA ob 9) (gA ob 10) (gA ob 15) (gA ob 17) x w)
  unfold ct
  rw [ckn (m := 64) rfl hx]
  by_cases c : gA ob 9 x < 0
  · rw [if_pos c, if_pos c, ckn (m := 64) rfl hx]
    by_cases d : gA ob 10 x < 0
    · rw [if_pos d, if_pos d]
    · have s := (h.slt x hx (nneg' d)).2.1
      have e := ix s hw
      rw [if_neg d, if_neg d, ckn (m := 256) rfl (by rw [In, e]; omega)]
  · have s := (h.frm x hx (nneg' c)).1
    have e := ix (s := gA ob 9 x) ⟨s.1, by omega⟩ hw
    rw [if_neg c, if_neg c, ckn (m := 128) rfl (by rw [In, e]; omega)]
theorem ms4 (NF : Nat) {ob : Rec} (h : PI ob) (k : Int32 → Int32 → Int32 → Option Int32) (q acc i x : Int32) (hx : In 64 x) : ∀ fuel, 5 ≤ fuel → X_memorySum_l33 NF ob k fuel q acc i x 0 = k q (acc + cont ob x 0 + cont ob x 1 + cont ob x 2 + cont ob x 3) (i + 1) := by
  intro fuel hfu
  obtain ⟨n, rfl⟩ : ∃ n, fuel = n + 5 := ⟨fuel - 5, by omega⟩
  show X_memorySum_w33 NF ob k (X_memorySum_l33 NF ob k (n + 4)) q acc i x 0 = _
  unfold X_memorySum_w33; rw [if_pos (by decide), rw_e h hx (by decide), Option.bind_some]
  show X_memorySum_w33 NF ob k (X_memorySum_l33 NF ob k (n + 3)) q _ i x 1 = _
  unfold X_memorySum_w33; rw [if_pos (by decide), rw_e h hx (by decide), Option.bind_some]
  show X_memorySum_w33 NF ob k (X_memorySum_l33 NF ob k (n + 2)) q _ i x 2 = _
  unfold X_memorySum_w33; rw [if_pos (by decide), rw_e h hx (by decide), Option.bind_some]
  show X_memorySum_w33 NF ob k (X_memorySum_l33 NF ob k (n + 1)) q _ i x 3 = _
  unfold X_memorySum_w33; rw [if_pos (by decide), rw_e h hx (by decide), Option.bind_some]
  show X_memorySum_w33 NF ob k (X_memorySum_l33 NF ob k n) q _ i x 4 = _
  unfold X_memorySum_w33; rw [if_neg (by decide)]
theorem ms_e (NF : Nat) (hNF : 70 < NF) {ob : Rec} (h : PI ob) {q : Int32} (hq : In (gI ob 0).toInt q) (hN : gI ob 1 = 16) (f : Nat → Int32) (hf : ∀ g w, g < 16 → w < 4 → cont ob (q * 16 + n32 g) (n32 w) = f (4 * g + w)) : X_memorySum NF ob q = some (ps f 64) := by
  have hP := h.hP
  have hq4 : In 4 q := ⟨hq.1, by omega⟩
  have l : ∀ (m fuel : Nat) (i : Nat), m < fuel → i ≤ 16 → 16 - i ≤ m → X_memorySum_l14 NF ob fuel q (ps f (4 * i)) (n32 i) = some (ps f 64) := by
    intro m
    induction m with
    | zero =>
      intro fuel i hfu h1 h2
      obtain ⟨n, rfl⟩ : ∃ n, fuel = n + 1 := ⟨fuel - 1, by omega⟩
      have : i = 16 := by omega
      subst this
      show X_memorySum_w14 NF ob _ q _ _ = _
      unfold X_memorySum_w14; rw [hN, if_neg (by decide)]
    | succ m ih =>
      intro fuel i hfu h1 h2
      obtain ⟨n, rfl⟩ : ∃ n, fuel = n + 1 := ⟨fuel - 1, by omega⟩
      show X_memorySum_w14 NF ob (X_memorySum_l14 NF ob n) q _ _ = _
      unfold X_memorySum_w14; rw [hN]
      by_cases c : i < 16
      · have e := px hq4 (ni (n := 16) c (by omega))
        have ni' := ni (n := 16) c (by omega)
        rw [if_pos (ltn (m := 16) rfl ni'.2), ms4 NF h _ q _ _ _ (by rw [In, e]; omega) NF (by omega)]
        have e1 : n32 i + 1 = n32 (i + 1) := eq_i32.mpr (by rw [s1 (by rw [nt i (by omega)]; omega), nt i (by omega), nt (i + 1) (by omega)]; omega)
        have e2 : ps f (4 * i) + cont ob (q * 16 + n32 i) 0 + cont ob (q * 16 + n32 i) 1 + cont ob (q * 16 + n32 i) 2 + cont ob (q * 16 + n32 i) 3 = ps f (4 * (i + 1)) := by
          have f0 := hf i 0 c (by omega)
          have f1 := hf i 1 c (by omega)
          have f2 := hf i 2 c (by omega)
          have f3 := hf i 3 c (by omega)
          have n0 : n32 0 = 0 := by decide
          have n1 : n32 1 = 1 := by decide
          have n2 : n32 2 = 2 := by decide
          have n3 : n32 3 = 3 := by decide
          rw [n0] at f0; rw [n1] at f1; rw [n2] at f2; rw [n3] at f3
          rw [f0, f1, f2, f3]
          show _ = ps f (4 * i + 1 + 1 + 1 + 1)
          rfl
        rw [e1, e2]; exact ih n (i + 1) (by omega) (by omega) (by omega)
      · have : i = 16 := by omega
        subst this
        rw [if_neg (by decide)]
  unfold X_memorySum; rw [vpy hq, Option.bind_some, if_neg (by decide)]
  exact l 16 NF 0 (by omega) (by omega) (by omega)
theorem wss_e {ob : Rec} {q : Int32} (hP : (gI ob 0).toInt ≤ 4) (hq : In (gI ob 0).toInt q) : X_workingSetSize ob q = some (gA ob 4 q) := by
  unfold X_workingSetSize; rw [vpy hq, Option.bind_some, if_neg (by decide), ckn (m := 4) rfl ⟨hq.1, by omega⟩]
theorem vt_e {ob : Rec} {q : Int32} (hP : (gI ob 0).toInt ≤ 4) (hq : In (gI ob 0).toInt q) : X_virtualTime ob q = some (gA ob 1 q) := by
  unfold X_virtualTime; rw [vpy hq, Option.bind_some, if_neg (by decide), ckn (m := 4) rfl ⟨hq.1, by omega⟩]
theorem sus_e {ob : Rec} {q : Int32} (hP : (gI ob 0).toInt ≤ 4) (hq : In (gI ob 0).toInt q) (hf : gA ob 0 q = 0 ∨ gA ob 0 q = 1) : X_isSuspended ob q = some (gA ob 0 q) := by
  unfold X_isSuspended; rw [vpy hq, Option.bind_some, if_neg (by decide), ckn (m := 4) rfl ⟨hq.1, by omega⟩]
  rcases hf with e | e <;> rw [e] <;> rfl
-- USE: bits pga pgb pgc pgd pge pgf pgg
theorem pq {q a : Int32} (hq : In 4 q) (ha : In 64 a) : In 16 (a / 4) ∧ In 4 (a % 4) ∧ In 64 (q * 16 + a / 4) := by
  have x := a4 (N := 16) (by omega) (a := a) ha
  have e1 := px hq x.2.2.1
  exact ⟨x.2.2.1, x.2.2.2, by rw [In, e1]; omega⟩
theorem pqe {p q a b : Int32} (hp : In 4 p) (hq : In 4 q) (ha : In 64 a) (hb : In 64 b) : (p * 16 + a / 4 = q * 16 + b / 4 ∧ a % 4 = b % 4) ↔ (p = q ∧ a = b) := by
  have x := a4 (N := 16) (by omega) (a := a) ha
  have y := a4 (N := 16) (by omega) (a := b) hb
  have e1 := px hp x.2.2.1
  have e2 := px hq y.2.2.1
  constructor
  · intro ⟨h1, h2⟩
    rw [eq_i32, e1, e2] at h1
    rw [eq_i32] at h2
    exact ⟨eq_i32.mpr (by omega), eq_i32.mpr (by omega)⟩
  · intro ⟨h1, h2⟩; rw [h1, h2]; exact ⟨rfl, rfl⟩
def up {α : Type} (f : Int32 → α) (p : Int32) (v : α) (q : Int32) : α := if q = p then v else f q
theorem in2 {p : Int32} (h : In 2 p) : p = 0 ∨ p = 1 := by
  simp only [eq_i32, Int32.reduceToInt]; omega
theorem i24 {p : Int32} (h : In 2 p) : In 4 p := ⟨h.1, by have := h.2; omega⟩
abbrev S5 (ob : Rec) (Z : Int32 → Int32 → Prop) (w v n f : Int32 → Int32) (t : Int32) (u : Int32) (k : Int) : Prop := (gI ob 0 = 2 ∧ gI ob 1 = 16 ∧ gI ob 2 = 4 ∧ gI ob 3 = 8) ∧ (∀ p g, In 2 p → In 16 g → (0 ≤ (gA ob 7 (p * 16 + g)).toInt ∧ (gA ob 7 (p * 16 + g)).toInt ≤ k) ∧ (gA ob 7 (p * 16 + g) = 0 ↔ ¬ Z p g)) ∧ (∀ p, In 2 p → gA ob 4 p = w p) ∧ (∀ p, In 2 p → gA ob 1 p = v p) ∧ (∀ p, In 2 p → gA ob 2 p = n p) ∧ (∀ p, In 2 p → gA ob 3 p = n p) ∧ (∀ p, In 2 p → gA ob 0 p = f p) ∧ (∀ p j, In 2 p → In 16 j → In 16 (gA ob 6 (p * 16 + j))) ∧ (gI ob 5 = t ∧ gI ob 6 = u)
theorem S5.cf {ob : Rec} {Z : Int32 → Int32 → Prop} {w v n f : Int32 → Int32} {t : Int32} {u : Int32} {k : Int} (h : S5 ob Z w v n f t u k) : gI ob 0 = 2 ∧ gI ob 1 = 16 ∧ gI ob 2 = 4 ∧ gI ob 3 = 8 := h.1
theorem S5.cz {ob : Rec} {Z : Int32 → Int32 → Prop} {w v n f : Int32 → Int32} {t : Int32} {u : Int32} {k : Int} (h : S5 ob Z w v n f t u k) : ∀ p g, In 2 p → In 16 g → (0 ≤ (gA ob 7 (p * 16 + g)).toInt ∧ (gA ob 7 (p * 16 + g)).toInt ≤ k) ∧ (gA ob 7 (p * 16 + g) = 0 ↔ ¬ Z p g) := h.2.1
theorem S5.w4 {ob : Rec} {Z : Int32 → Int32 → Prop} {w v n f : Int32 → Int32} {t : Int32} {u : Int32} {k : Int} (h : S5 ob Z w v n f t u k) : ∀ p, In 2 p → gA ob 4 p = w p := h.2.2.1
theorem S5.v1 {ob : Rec} {Z : Int32 → Int32 → Prop} {w v n f : Int32 → Int32} {t : Int32} {u : Int32} {k : Int} (h : S5 ob Z w v n f t u k) : ∀ p, In 2 p → gA ob 1 p = v p := h.2.2.2.1
theorem S5.n2 {ob : Rec} {Z : Int32 → Int32 → Prop} {w v n f : Int32 → Int32} {t : Int32} {u : Int32} {k : Int} (h : S5 ob Z w v n f t u k) : ∀ p, In 2 p → gA ob 2 p = n p := h.2.2.2.2.1
theorem S5.n3 {ob : Rec} {Z : Int32 → Int32 → Prop} {w v n f : Int32 → Int32} {t : Int32} {u : Int32} {k : Int} (h : S5 ob Z w v n f t u k) : ∀ p, In 2 p → gA ob 3 p = n p := h.2.2.2.2.2.1
theorem S5.f0 {ob : Rec} {Z : Int32 → Int32 → Prop} {w v n f : Int32 → Int32} {t : Int32} {u : Int32} {k : Int} (h : S5 ob Z w v n f t u k) : ∀ p, In 2 p → gA ob 0 p = f p := h.2.2.2.2.2.2.1
theorem S5.rg {ob : Rec} {Z : Int32 → Int32 → Prop} {w v n f : Int32 → Int32} {t : Int32} {u : Int32} {k : Int} (h : S5 ob Z w v n f t u k) : ∀ p j, In 2 p → In 16 j → In 16 (gA ob 6 (p * 16 + j)) := h.2.2.2.2.2.2.2.1
theorem S5.sk {ob : Rec} {Z : Int32 → Int32 → Prop} {w v n f : Int32 → Int32} {t : Int32} {u : Int32} {k : Int} (h : S5 ob Z w v n f t u k) : gI ob 5 = t ∧ gI ob 6 = u := h.2.2.2.2.2.2.2.2
theorem S5_c {ob r : Rec} {Z : Int32 → Int32 → Prop} {w v n f : Int32 → Int32} {t u : Int32} {k : Int} (h : S5 ob Z w v n f t u k) (hI : ∀ j, ¬ j = 7 → ¬ j = 4 → gI r j = gI ob j) (hA : ∀ j x, j ≤ 8 → gA r j x = gA ob j x) : S5 r Z w v n f t u k := by
  obtain ⟨a1, a2, a3, a4, a5, a6, a7, a8, a9⟩ := h
  refine ⟨?_, fun p g hp hg => ?_, fun p hp => ?_, fun p hp => ?_, fun p hp => ?_, fun p hp => ?_, fun p hp => ?_, fun p j hp hj => ?_, ?_⟩
  · rw [hI 0 (by decide) (by decide), hI 1 (by decide) (by decide), hI 2 (by decide) (by decide), hI 3 (by decide) (by decide)]; exact a1
  · rw [hA 7 _ (by omega)]; exact a2 p g hp hg
  · rw [hA 4 _ (by omega)]; exact a3 p hp
  · rw [hA 1 _ (by omega)]; exact a4 p hp
  · rw [hA 2 _ (by omega)]; exact a5 p hp
  · rw [hA 3 _ (by omega)]; exact a6 p hp
  · rw [hA 0 _ (by omega)]; exact a7 p hp
  · rw [hA 6 _ (by omega)]; exact a8 p j hp hj
  · rw [hI 5 (by decide) (by decide), hI 6 (by decide) (by decide)]; exact a9
theorem ref5 {ob r : Rec} {Z : Int32 → Int32 → Prop} {w v n f : Int32 → Int32} {t u p g w1 w' : Int32} {c1 : Int32 → Int32} {k : Int} (h : S5 ob Z w v n f t u k) (hk : k < 100) (hp : In 2 p) (hg : In 16 g) (hn : 0 ≤ (n p).toInt ∧ (n p).toInt < 7) (hw : (Z p g ∧ w' = w p) ∨ (¬ Z p g ∧ w' = w p + 1)) (rr : RR p g ob r c1 w1) :
    S5 r (fun q b => Z q b ∨ (q = p ∧ b = g)) (up w p w') (up v p (v p + 1)) (up n p (n p + 1)) f t u (k + 1) := by
  obtain ⟨a1, a2, a3, a4, a5, a6, a7, a8, a9⟩ := h
  have T : gI ob 3 = 8 := a1.2.2.2
  have lt : gA ob 2 p < gI ob 3 := by rw [a5 p hp, T]; exact ltn (m := 8) rfl (by omega)
  obtain ⟨e1, e2⟩ := rr.c1l lt
  have nn := s1 (i := n p) (by omega)
  refine ⟨?_, fun q b hq hb => ?_, fun q hq => ?_, fun q hq => ?_, fun q hq => ?_, fun q hq => ?_, fun q hq => ?_, fun q j hq hj => ?_, ?_⟩
  · rw [rr.si, rr.si, rr.si, rr.si]; exact a1
  · rw [rr.cn, e1]
    have z := a2 q b hq hb
    by_cases c : q = p ∧ b = g
    · rw [if_pos (by rw [c.1, c.2])]
      have s := s1 (i := gA ob 7 (q * 16 + b)) (by omega)
      refine ⟨by omega, ⟨fun e => ?_, fun e => absurd (Or.inr c) e⟩⟩
      rw [e] at s
      have z0 : (0 : Int32).toInt = 0 := rfl
      omega
    · rw [if_neg (fun e => c (px_inj (i24 hq) (i24 hp) hb hg e))]
      refine ⟨by omega, ⟨fun e o => ?_, fun e => z.2.mpr (fun o => e (Or.inl o))⟩⟩
      rcases o with o | o
      · exact z.2.mp e o
      · exact c o
  · unfold up
    by_cases c : q = p
    · rw [if_pos c, c, rr.ws, e1, e2, a3 p hp]
      rcases hw with x | x
      · rw [if_neg (fun e => (a2 p g hp hg).2.mp e x.1), x.2]
      · rw [if_pos ((a2 p g hp hg).2.mpr x.1), x.2]
    · rw [if_neg c, rr.so 4 q (by omega) c]; exact a3 q hq
  · unfold up
    by_cases c : q = p
    · rw [if_pos c, c, rr.vt, a4 p hp]
    · rw [if_neg c, rr.so 1 q (by omega) c]; exact a4 q hq
  · unfold up
    by_cases c : q = p
    · rw [if_pos c, c, rr.ln, if_pos lt, a5 p hp]
    · rw [if_neg c, rr.so 2 q (by omega) c]; exact a5 q hq
  · unfold up
    by_cases c : q = p
    · rw [if_pos c, c, rr.hd, a6 p hp, T]
      apply eq_i32.mpr
      rw [md (by omega) (by decide)]
      show _ % (8 : Int) = _
      rw [nn, Int.emod_eq_of_lt (by omega) (by omega)]
    · rw [if_neg c, rr.so 3 q (by omega) c]; exact a6 q hq
  · rw [rr.sa 0 q (by omega)]; exact a7 q hq
  · rw [rr.rg]
    split
    · exact hg
    · exact a8 q j hq hj
  · rw [rr.si, rr.si]; exact a9
def av (ob : Rec) (acc q : Int32) : Int32 := if gA ob 0 q = 0 then acc + gA ob 4 q else acc
theorem at_s (NF : Nat) {ob : Rec} (h0 : gI ob 0 = 2) (k : Int32 → Int32 → Option Int32) (acc q : Int32) (hq : In 2 q) : X_activeTotal_w4 NF ob k acc q = k (av ob acc q) (q + 1) := by
  unfold X_activeTotal_w4 av
  rw [h0, if_pos (ltn (m := 2) rfl hq.2), ckn (m := 4) rfl (i24 hq)]
  split
  · rw [ckn (m := 4) rfl (i24 hq)]
  · rfl
theorem at2 (NF : Nat) (hNF : 70 < NF) {ob : Rec} (h0 : gI ob 0 = 2) : X_activeTotal NF ob = some (av ob (av ob 0 0) 1) := by
  have l : ∀ fuel, 5 ≤ fuel → X_activeTotal_l4 NF ob fuel 0 0 = some (av ob (av ob 0 0) 1) := by
    intro fuel hfu
    obtain ⟨n, rfl⟩ : ∃ n, fuel = n + 5 := ⟨fuel - 5, by omega⟩
    show X_activeTotal_w4 NF ob (X_activeTotal_l4 NF ob (n + 4)) 0 0 = _
    rw [at_s NF h0 _ _ _ (by decide)]
    show X_activeTotal_w4 NF ob (X_activeTotal_l4 NF ob (n + 3)) _ 1 = _
    rw [at_s NF h0 _ _ _ (by decide)]
    show X_activeTotal_w4 NF ob (X_activeTotal_l4 NF ob (n + 2)) _ 2 = _
    unfold X_activeTotal_w4; rw [h0, if_neg (by decide)]
  exact l NF (by omega)
/-- the second loop with none suspended -/
theorem l67_0 (NF : Nat) (hNF : 70 < NF) {ob : Rec} (h0 : gI ob 0 = 2) (f0 : gA ob 0 0 = 0) (f1 : gA ob 0 1 = 0) : X_loadControl_l67 NF NF ob 0 = some ob := by
  have l : ∀ fuel, 5 ≤ fuel → X_loadControl_l67 NF fuel ob 0 = some ob := by
    intro fuel hfu
    obtain ⟨n, rfl⟩ : ∃ n, fuel = n + 5 := ⟨fuel - 5, by omega⟩
    show X_loadControl_w67 NF (X_loadControl_l67 NF (n + 4)) ob 0 = _
    unfold X_loadControl_w67; rw [h0, if_pos (by decide), chk_ok (by decide), if_pos f0]
    show X_loadControl_w67 NF (X_loadControl_l67 NF (n + 3)) ob 1 = _
    unfold X_loadControl_w67; rw [h0, if_pos (by decide), chk_ok (by decide), if_pos f1]
    show X_loadControl_w67 NF (X_loadControl_l67 NF (n + 2)) ob 2 = _
    unfold X_loadControl_w67; rw [h0, if_neg (by decide)]
  exact l NF (by omega)
/-- the second loop with process 1 suspended -/
theorem l67_1 (NF : Nat) (hNF : 70 < NF) {ob : Rec} (h0 : gI ob 0 = 2) (h2 : gI ob 2 = 4) (f0 : gA ob 0 0 = 0) (f1 : gA ob 0 1 = 1) :
    X_loadControl_l67 NF NF ob 0 = some (if 4 < gA ob 4 0 + gA ob 4 1 then ob else sI (sA ob 0 1 0) 6 (gI ob 6 + 1)) := by
  have a : X_activeTotal NF ob = some (gA ob 4 0) := by
    rw [at2 NF hNF h0]; unfold av; rw [f0, f1, if_pos rfl, if_neg (by decide), Int32.zero_add]
  have l : ∀ fuel, 5 ≤ fuel → X_loadControl_l67 NF fuel ob 0 = some (if 4 < gA ob 4 0 + gA ob 4 1 then ob else sI (sA ob 0 1 0) 6 (gI ob 6 + 1)) := by
    intro fuel hfu
    obtain ⟨n, rfl⟩ : ∃ n, fuel = n + 5 := ⟨fuel - 5, by omega⟩
    show X_loadControl_w67 NF (X_loadControl_l67 NF (n + 4)) ob 0 = _
    unfold X_loadControl_w67; rw [h0, if_pos (by decide), chk_ok (by decide), if_pos f0]
    show X_loadControl_w67 NF (X_loadControl_l67 NF (n + 3)) ob 1 = _
    unfold X_loadControl_w67; rw [h0, if_pos (by decide), chk_ok (by decide), if_neg (by rw [f1]; decide), a, Option.bind_some, chk_ok (by decide), h2]
    by_cases c : 4 < gA ob 4 0 + gA ob 4 1
    · rw [if_pos c, if_pos c]
      show X_loadControl_w67 NF (X_loadControl_l67 NF (n + 2)) ob 2 = _
      unfold X_loadControl_w67; rw [h0, if_neg (by decide)]
    · rw [if_neg c, if_neg c, chk_ok (by decide)]
      show X_loadControl_w67 NF (X_loadControl_l67 NF (n + 2)) _ 2 = _
      unfold X_loadControl_w67
      rw [if_neg]
      show ¬ (2 : Int32) < gI ob 0
      rw [h0]; decide
  exact l NF (by omega)
theorem lcA (NF : Nat) (hNF : 70 < NF) {ob : Rec} (p : Int32) (h0 : gI ob 0 = 2) (h2 : gI ob 2 = 4) (f0 : gA ob 0 0 = 0) (f1 : gA ob 0 1 = 0) (hs : ¬ 4 < gA ob 4 0 + gA ob 4 1) : X_loadControl NF ob p = some ob := by
  have a : X_activeTotal NF ob = some (gA ob 4 0 + gA ob 4 1) := by
    rw [at2 NF hNF h0]; unfold av; rw [f0, f1, if_pos rfl, if_pos rfl, Int32.zero_add]
  have l : ∀ fuel, 5 ≤ fuel → X_loadControl_l2 NF fuel ob p 0 = some ob := by
    intro fuel hfu
    obtain ⟨n, rfl⟩ : ∃ n, fuel = n + 5 := ⟨fuel - 5, by omega⟩
    show X_loadControl_w2 NF (X_loadControl_l2 NF (n + 4)) ob p 0 = _
    unfold X_loadControl_w2; rw [h0, if_pos (by decide), a, Option.bind_some, h2, if_neg hs]
    exact l67_0 NF hNF h0 f0 f1
  exact l NF (by omega)
theorem lcC (NF : Nat) (hNF : 70 < NF) {ob : Rec} (p : Int32) (h0 : gI ob 0 = 2) (h2 : gI ob 2 = 4) (f0 : gA ob 0 0 = 0) (f1 : gA ob 0 1 = 1) (hs : ¬ 4 < gA ob 4 0) : X_loadControl NF ob p = some (if 4 < gA ob 4 0 + gA ob 4 1 then ob else sI (sA ob 0 1 0) 6 (gI ob 6 + 1)) := by
  have a : X_activeTotal NF ob = some (gA ob 4 0) := by
    rw [at2 NF hNF h0]; unfold av; rw [f0, f1, if_pos rfl, if_neg (by decide), Int32.zero_add]
  have l : ∀ fuel, 5 ≤ fuel → X_loadControl_l2 NF fuel ob p 0 = some (if 4 < gA ob 4 0 + gA ob 4 1 then ob else sI (sA ob 0 1 0) 6 (gI ob 6 + 1)) := by
    intro fuel hfu
    obtain ⟨n, rfl⟩ : ∃ n, fuel = n + 5 := ⟨fuel - 5, by omega⟩
    show X_loadControl_w2 NF (X_loadControl_l2 NF (n + 4)) ob p 0 = _
    unfold X_loadControl_w2; rw [h0, if_pos (by decide), a, Option.bind_some, h2, if_neg hs]
    exact l67_1 NF hNF h0 h2 f0 f1
  exact l NF (by omega)
theorem lcB (NF : Nat) (hNF : 70 < NF) {ob : Rec} (h0 : gI ob 0 = 2) (h2 : gI ob 2 = 4) (f0 : gA ob 0 0 = 0) (f1 : gA ob 0 1 = 0) (w0 : gA ob 4 0 = 3) (w1 : gA ob 4 1 = 2) : X_loadControl NF ob 0 = some (sI (sA ob 0 1 1) 5 (gI ob 5 + 1)) := by
  have a : X_activeTotal NF ob = some 5 := by
    rw [at2 NF hNF h0]; unfold av; rw [f0, f1, w0, w1, if_pos rfl, if_pos rfl]; rfl
  have pk : X_pickProcessToSuspend NF ob 0 = some 1 := by
    have l : ∀ fuel, 5 ≤ fuel → X_pickProcessToSuspend_l7 NF ob fuel 0 (gI ob 0 - 1) = some 1 := by
      intro fuel hfu
      obtain ⟨n, rfl⟩ : ∃ n, fuel = n + 5 := ⟨fuel - 5, by omega⟩
      rw [h0]
      show X_pickProcessToSuspend_w7 NF ob (X_pickProcessToSuspend_l7 NF ob (n + 4)) 0 1 = _
      unfold X_pickProcessToSuspend_w7; rw [if_neg (by decide), if_neg (by decide), chk_ok (by decide), if_pos f1, chk_ok (by decide), w1, if_pos (by decide)]
    exact l NF (by omega)
  generalize hr : sI (sA ob 0 1 1) 5 (gI ob 5 + 1) = r
  have r0 : gI r 0 = 2 := by rw [← hr]; exact h0
  have r2 : gI r 2 = 4 := by rw [← hr]; exact h2
  have rf0 : gA r 0 0 = 0 := by rw [← hr]; exact f0
  have rf1 : gA r 0 1 = 1 := by rw [← hr]; rfl
  have rw0 : gA r 4 0 = 3 := by rw [← hr]; exact w0
  have rw1 : gA r 4 1 = 2 := by rw [← hr]; exact w1
  have a2 : X_activeTotal NF r = some 3 := by
    rw [at2 NF hNF r0]; unfold av; rw [rf0, rf1, rw0, if_pos rfl, if_neg (by decide)]; rfl
  have l67 := l67_1 NF hNF r0 r2 rf0 rf1
  rw [rw0, rw1, if_pos (by decide)] at l67
  have l : ∀ fuel, 5 ≤ fuel → X_loadControl_l2 NF fuel ob 0 0 = some r := by
    intro fuel hfu
    obtain ⟨n, rfl⟩ : ∃ n, fuel = n + 5 := ⟨fuel - 5, by omega⟩
    show X_loadControl_w2 NF (X_loadControl_l2 NF (n + 4)) ob 0 0 = _
    unfold X_loadControl_w2; rw [h0, if_pos (by decide), a, Option.bind_some, h2, if_pos (by decide), pk, Option.bind_some, if_neg (by decide), chk_ok (by decide), hr]
    show X_loadControl_w2 NF (X_loadControl_l2 NF (n + 3)) r 0 1 = _
    unfold X_loadControl_w2; rw [r0, if_pos (by decide), a2, Option.bind_some, r2, if_neg (by decide)]
    exact l67
  exact l NF (by omega)
theorem wb5 {ob : Rec} {Z : Int32 → Int32 → Prop} {w v n f : Int32 → Int32} {t u p : Int32} {k : Int} (h : S5 ob Z w v n f t u k) (hp : In 2 p) (hn : 0 ≤ (n p).toInt ∧ (n p).toInt < 7) : WB ob p := by
  have e := h.n3 p hp
  have i : In 16 (gA ob 3 p) := by rw [In, e]; omega
  exact ⟨i, h.rg p _ hp i⟩
/-- a store of an active process, up to the load control -/
theorem st5 (NF : Nat) (hNF : 70 < NF) {ob : Rec} {Z : Int32 → Int32 → Prop} {w v n f : Int32 → Int32} {t u p a x w' : Int32} {k : Int} (hi : PI ob) (h : S5 ob Z w v n f t u k) (hk : k < 100) (hp : In 2 p) (ha : In 64 a) (hn : 0 ≤ (n p).toInt ∧ (n p).toInt < 7) (hz : f p = 0) (hw : (Z p (a / 4) ∧ w' = w p) ∨ (¬ Z p (a / 4) ∧ w' = w p + 1)) :
    ∃ o2 o3, X_store NF ob p a x = some (0, sI o3 4 0) ∧ X_loadControl NF o2 p = some o3 ∧ PI (sI o3 4 0) ∧ S5 o2 (fun q b => Z q b ∨ (q = p ∧ b = a / 4)) (up w p w') (up v p (v p + 1)) (up n p (n p + 1)) f t u (k + 1) ∧
      ∀ q b, In 2 q → In 64 b → cont (sI o3 4 0) (q * 16 + b / 4) (b % 4) = if q = p ∧ b = a then x else cont ob (q * 16 + b / 4) (b % 4) := by
  obtain ⟨x1, x2, x3⟩ := pq (i24 hp) ha
  obtain ⟨o1, o2, c1, w1, o3, e, k1, k2, rr, el, lc, pr, r0, ec⟩ := st_e NF hNF (v := x) hi (p := p) (a := a) (by rw [h.cf.1]; exact hp) (by rw [h.cf.2.1]; exact ha) (by rw [h.f0 p hp, hz]) (by rw [h.cf.2.2.2]; decide) (wb5 h hp hn)
  have h1 := S5_c h (fun j a _ => k1 j a) k2
  refine ⟨o2, o3, e, el, pr, ref5 h1 hk hp x1 hn hw rr, fun q b hq hb => ?_⟩
  obtain ⟨y1, y2, y3⟩ := pq (i24 hq) hb
  rw [ec _ _ y3 y2]
  have ee := pqe (i24 hq) (i24 hp) hb ha
  by_cases c : q = p ∧ b = a
  · rw [if_pos c, if_pos (ee.mpr c)]
  · rw [if_neg c, if_neg (fun e => c (ee.mp e))]
theorem ld5 (NF : Nat) (hNF : 70 < NF) {ob : Rec} {Z : Int32 → Int32 → Prop} {w v n f : Int32 → Int32} {t u p a w' : Int32} {k : Int} (hi : PI ob) (h : S5 ob Z w v n f t u k) (hk : k < 100) (hp : In 2 p) (ha : In 64 a) (hn : 0 ≤ (n p).toInt ∧ (n p).toInt < 7) (hz : f p = 0) (hw : (Z p (a / 4) ∧ w' = w p) ∨ (¬ Z p (a / 4) ∧ w' = w p + 1)) :
    ∃ o2 o3, X_load NF ob p a = some ((cont ob (p * 16 + a / 4) (a % 4)).toInt64, sI o3 4 0) ∧ X_loadControl NF o2 p = some o3 ∧ PI (sI o3 4 0) ∧ S5 o2 (fun q b => Z q b ∨ (q = p ∧ b = a / 4)) (up w p w') (up v p (v p + 1)) (up n p (n p + 1)) f t u (k + 1) ∧
      ∀ q b, In 2 q → In 64 b → cont (sI o3 4 0) (q * 16 + b / 4) (b % 4) = cont ob (q * 16 + b / 4) (b % 4) := by
  obtain ⟨x1, x2, x3⟩ := pq (i24 hp) ha
  obtain ⟨o1, o2, c1, w1, o3, e, k1, k2, rr, el, lc, pr, r0, ec⟩ := ld_e NF hNF hi (p := p) (a := a) (by rw [h.cf.1]; exact hp) (by rw [h.cf.2.1]; exact ha) (by rw [h.f0 p hp, hz]) (by rw [h.cf.2.2.2]; decide) (wb5 h hp hn)
  have h1 := S5_c h (fun j a _ => k1 j a) k2
  refine ⟨o2, o3, e, el, pr, ref5 h1 hk hp x1 hn hw rr, fun q b hq hb => ?_⟩
  obtain ⟨y1, y2, y3⟩ := pq (i24 hq) hb
  rw [ec _ _ y3 y2]
/-- the load control finds nothing to do -/
theorem keep5 (NF : Nat) (hNF : 70 < NF) {ob : Rec} {Z : Int32 → Int32 → Prop} {w v n f : Int32 → Int32} {t u p : Int32} {k : Int} (h : S5 ob Z w v n f t u k) (f0 : f 0 = 0) (f1 : f 1 = 0) (hs : ¬ 4 < w 0 + w 1) : X_loadControl NF ob p = some ob :=
  lcA NF hNF p h.cf.1 h.cf.2.2.1 (by rw [h.f0 0 (by decide), f0]) (by rw [h.f0 1 (by decide), f1]) (by rw [h.w4 0 (by decide), h.w4 1 (by decide)]; exact hs)
theorem S5_z {ob : Rec} {Z Z' : Int32 → Int32 → Prop} {w v n f w' v' n' f' : Int32 → Int32} {t u : Int32} {k : Int} (h : S5 ob Z w v n f t u k) (hZ : ∀ p g, In 2 p → (Z' p g ↔ Z p g)) (hw : w' 0 = w 0 ∧ w' 1 = w 1) (hv : v' 0 = v 0 ∧ v' 1 = v 1) (hn : n' 0 = n 0 ∧ n' 1 = n 1) (hf : f' 0 = f 0 ∧ f' 1 = f 1) : S5 ob Z' w' v' n' f' t u k := by
  obtain ⟨a1, a2, a3, a4, a5, a6, a7, a8, a9⟩ := h
  have e : ∀ (f g : Int32 → Int32), g 0 = f 0 ∧ g 1 = f 1 → ∀ p, In 2 p → g p = f p := fun f g hh p hp => by
    rcases in2 hp with rfl | rfl
    · exact hh.1
    · exact hh.2
  exact ⟨a1, fun p g hp hg => ⟨(a2 p g hp hg).1, by rw [hZ p g hp]; exact (a2 p g hp hg).2⟩, fun p hp => by rw [e _ _ hw p hp]; exact a3 p hp, fun p hp => by rw [e _ _ hv p hp]; exact a4 p hp, fun p hp => by rw [e _ _ hn p hp]; exact a5 p hp, fun p hp => by rw [e _ _ hn p hp]; exact a6 p hp, fun p hp => by rw [e _ _ hf p hp]; exact a7 p hp, a8, a9⟩
def f2 (a b : Int32) (q : Int32) : Int32 := if q = 0 then a else b
theorem S5_s {ob : Rec} {Z : Int32 → Int32 → Prop} {w v n f : Int32 → Int32} {t u c : Int32} {k : Int} (h : S5 ob Z w v n f t u k) : S5 (sI ob 4 c) Z w v n f t u k :=
  S5_c h (fun j _ b => by rw [gI_sI, if_neg b]) (fun _ _ _ => rfl)
theorem ps_add (f g : Nat → Int32) : ∀ n, ps (fun i => f i + g i) n = ps f n + ps g n
  | 0 => rfl
  | n + 1 => by
    show ps (fun i => f i + g i) n + (f n + g n) = ps f n + f n + (ps g n + g n)
    rw [ps_add f g n]
    generalize ps f n = A
    generalize ps g n = B
    generalize f n = C
    generalize g n = D
    grind
theorem ps_pt (i : Nat) (x : Int32) : ∀ n, ps (fun j => if j = i then x else 0) n = if i < n then x else 0
  | 0 => rfl
  | n + 1 => by
    show ps (fun j => if j = i then x else 0) n + (if n = i then x else 0) = _
    rw [ps_pt i x n]
    by_cases c : n = i
    · subst c; rw [if_neg (by omega), if_pos rfl, if_pos (by omega), Int32.zero_add]
    · rw [if_neg c, Int32.add_zero]
      by_cases d : i < n
      · rw [if_pos d, if_pos (by omega)]
      · rw [if_neg d, if_neg (by omega)]
theorem n4 {g w : Nat} (hg : g < 16) (hw : w < 4) : n32 (4 * g + w) / 4 = n32 g ∧ n32 (4 * g + w) % 4 = n32 w ∧ In 64 (n32 (4 * g + w)) ∧ (n32 (4 * g + w)).toInt.toNat = 4 * g + w := by
  have h := ni (i := 4 * g + w) (n := 64) (by omega) (by omega)
  have x := a4 (N := 16) (by omega) (a := n32 (4 * g + w)) h
  have e := nt (4 * g + w) (by omega)
  refine ⟨eq_i32.mpr ?_, eq_i32.mpr ?_, h, by rw [e]; omega⟩
  · rw [x.1, e, nt g (by omega)]; omega
  · rw [x.2.1, e, nt w (by omega)]; omega
theorem ad4 {a : Int32} (ha : In 16 a) (o : Int32) (ho : In 4 o) : In 64 (4 * a + o) ∧ (4 * a + o) / 4 = a ∧ (4 * a + o) % 4 = o := by
  have e : (4 * a).toInt = 4 * a.toInt := ml (by show -2147483648 ≤ 4 * a.toInt ∧ 4 * a.toInt < 2147483648; omega)
  have e2 : (4 * a + o).toInt = 4 * a.toInt + o.toInt := by rw [ad (by rw [e]; omega), e]
  have h : In 64 (4 * a + o) := by rw [In, e2]; omega
  have x := a4 (N := 16) (by omega) (a := 4 * a + o) h
  exact ⟨h, eq_i32.mpr (by rw [x.1, e2]; omega), eq_i32.mpr (by rw [x.2.1, e2]; omega)⟩
theorem in16 (x : Int32) : In 16 (x &&& 15) := by
  have := and_b x 15 15 rfl (by omega)
  rw [In]; omega
theorem vv5 (v : Int32) : v + 1 + v = v + v + 1 := by grind
theorem zz3 (X A B C D : Prop) : X ∨ (A ∧ (B ∨ C ∨ D)) ↔ (X ∨ (A ∧ (B ∨ C))) ∨ (A ∧ D) := by simp only [and_or_left, or_assoc]
theorem zz2 (X A B C : Prop) : X ∨ (A ∧ (B ∨ C)) ↔ (X ∨ (A ∧ B)) ∨ (A ∧ C) := by simp only [and_or_left, or_assoc]
set_option maxHeartbeats 1000000 in
theorem run5 (NF : Nat) (hNF : 70 < NF) {Q : Rec} (hQ : PI Q) (hS : S5 Q (fun _ _ => False) (fun _ => 0) (fun _ => 0) (fun _ => 0) (fun _ => 0) 0 0 0) (hC : ∀ y w, In 64 y → cont Q y w = 0) (v a1 a2 b1 b2 b3 d c2 c3 s : Int32) (h1 : In 16 a1) (h2 : In 16 a2) (h3 : In 16 b1) (h4 : In 16 b2) (h5 : In 16 b3)
    (hd : (a1 = a2 ∧ d = 1) ∨ (¬ a1 = a2 ∧ d = 2)) (hc2 : (b2 = b1 ∧ c2 = 1) ∨ (¬ b2 = b1 ∧ c2 = 2)) (hc3 : ((b3 = b1 ∨ b3 = b2) ∧ c3 = c2) ∨ (¬ (b3 = b1 ∨ b3 = b2) ∧ c3 = c2 + 1)) (hs : (4 < d + c3 ∧ s = 1) ∨ (¬ 4 < d + c3 ∧ s = 0)) :
    L_law_b116 NF Q v a1 a2 b1 b2 b3 d c3 s s = some 1 := by
  obtain ⟨A1, A2, A3⟩ := ad4 h1 0 (by decide)
  rw [Int32.add_zero] at A1 A2 A3
  obtain ⟨B1, B2, B3⟩ := ad4 h2 1 (by decide)
  obtain ⟨C1, C2, C3⟩ := ad4 h3 2 (by decide)
  obtain ⟨D1, D2, D3⟩ := ad4 h4 2 (by decide)
  obtain ⟨E1, E2, E3⟩ := ad4 h5 2 (by decide)
  have dv : d = 1 ∨ d = 2 := by rcases hd with x | x <;> simp [x.2]
  have c2v : c2 = 1 ∨ c2 = 2 := by rcases hc2 with x | x <;> simp [x.2]
  have c3v : c3 = 1 ∨ c3 = 2 ∨ c3 = 3 := by
    rcases hc3 with x | x
    · rw [x.2]; rcases c2v with e | e <;> simp [e]
    · rw [x.2]; rcases c2v with e | e
      · rw [e]; decide
      · rw [e]; decide
  unfold L_law_b116
  -- store 1
  obtain ⟨p2, p3, e1, l1, q1, s1', m1⟩ := st5 NF hNF (x := v) (w' := 1) hQ hS (by decide) (p := 1) (a := 4 * a1) (by decide) A1 (by decide) rfl (Or.inr ⟨id, rfl⟩)
  rw [A2] at s1'
  have t1 := S5_z (Z' := fun q b => q = 1 ∧ b = a1) (w' := f2 0 1) (v' := f2 0 1) (n' := f2 0 1) (f' := f2 0 0) s1' (fun p g _ => by simp) ⟨rfl, rfl⟩ ⟨rfl, rfl⟩ ⟨rfl, rfl⟩ ⟨rfl, rfl⟩
  have k1 := keep5 NF hNF (p := 1) t1 rfl rfl (by decide)
  rw [l1] at k1
  injection k1 with k1
  rw [k1] at e1 q1 m1
  rw [e1, bind2_some, if_pos rfl]
  have t1' := S5_s (c := 0) t1
  -- store 2
  obtain ⟨r2, r3, e2, l2, q2, s2', m2⟩ := st5 NF hNF (x := v + 1) (w' := d) q1 t1' (by decide) (p := 1) (a := 4 * a2 + 1) (by decide) B1 (by decide) rfl (by
    rw [B2]
    rcases hd with x | x
    · left; exact ⟨⟨rfl, x.1.symm⟩, x.2⟩
    · right; exact ⟨fun e => x.1 e.2.symm, x.2⟩)
  rw [B2] at s2'
  have t2 := S5_z (Z' := fun q b => q = 1 ∧ (b = a1 ∨ b = a2)) (w' := f2 0 d) (v' := f2 0 2) (n' := f2 0 2) (f' := f2 0 0) s2' (fun p g _ => and_or_left) ⟨rfl, rfl⟩ ⟨rfl, rfl⟩ ⟨rfl, rfl⟩ ⟨rfl, rfl⟩
  have k2 := keep5 NF hNF (p := 1) t2 rfl rfl (by show ¬ 4 < 0 + d; rcases dv with e | e <;> rw [e] <;> decide)
  rw [l2] at k2
  injection k2 with k2
  rw [k2] at e2 q2 m2
  rw [e2, bind2_some, if_pos rfl]
  have t2' := S5_s (c := 0) t2
  -- store 3
  obtain ⟨u2, u3, e3, l3, q3, s3', m3⟩ := st5 NF hNF (x := v) (w' := 1) q2 t2' (by decide) (p := 0) (a := 4 * b1 + 2) (by decide) C1 (by decide) rfl (Or.inr ⟨fun e => absurd e.1 (by decide), rfl⟩)
  rw [C2] at s3'
  have t3 := S5_z (Z' := fun q b => (q = 1 ∧ (b = a1 ∨ b = a2)) ∨ (q = 0 ∧ b = b1)) (w' := f2 1 d) (v' := f2 1 2) (n' := f2 1 2) (f' := f2 0 0) s3' (fun p g _ => Iff.rfl) ⟨rfl, rfl⟩ ⟨rfl, rfl⟩ ⟨rfl, rfl⟩ ⟨rfl, rfl⟩
  have k3 := keep5 NF hNF (p := 0) t3 rfl rfl (by show ¬ 4 < 1 + d; rcases dv with e | e <;> rw [e] <;> decide)
  rw [l3] at k3
  injection k3 with k3
  rw [k3] at e3 q3 m3
  rw [e3, bind2_some, if_pos rfl]
  have t3' := S5_s (c := 0) t3
  -- store 4
  obtain ⟨x2, x3, e4, l4, q4, s4', m4⟩ := st5 NF hNF (x := v) (w' := c2) q3 t3' (by decide) (p := 0) (a := 4 * b2 + 2) (by decide) D1 (by decide) rfl (by
    rw [D2]
    rcases hc2 with x | x
    · left; exact ⟨Or.inr ⟨rfl, x.1⟩, x.2⟩
    · right; exact ⟨fun e => e.elim (fun e => absurd e.1 (by decide)) (fun e => x.1 e.2), x.2⟩)
  rw [D2] at s4'
  have t4 := S5_z (Z' := fun q b => (q = 1 ∧ (b = a1 ∨ b = a2)) ∨ (q = 0 ∧ (b = b1 ∨ b = b2))) (w' := f2 c2 d) (v' := f2 2 2) (n' := f2 2 2) (f' := f2 0 0) s4' (fun p g _ => zz2 _ _ _ _) ⟨rfl, rfl⟩ ⟨rfl, rfl⟩ ⟨rfl, rfl⟩ ⟨rfl, rfl⟩
  have k4 := keep5 NF hNF (p := 0) t4 rfl rfl (by show ¬ 4 < c2 + d; rcases dv with e | e <;> rcases c2v with e' | e' <;> rw [e, e'] <;> decide)
  rw [l4] at k4
  injection k4 with k4
  rw [k4] at e4 q4 m4
  rw [e4, bind2_some, if_pos rfl]
  have t4' := S5_s (c := 0) t4
  -- store 5
  obtain ⟨y2, y3, e5, l5, q5, s5', m5⟩ := st5 NF hNF (x := v) (w' := c3) q4 t4' (by decide) (p := 0) (a := 4 * b3 + 2) (by decide) E1 (by decide) rfl (by
    rw [E2]
    rcases hc3 with x | x
    · left; exact ⟨Or.inr ⟨rfl, x.1⟩, x.2⟩
    · right; exact ⟨fun e => e.elim (fun e => absurd e.1 (by decide)) (fun e => x.1 e.2), x.2⟩)
  rw [E2] at s5'
  have t5 := S5_z (Z' := fun q b => (q = 1 ∧ (b = a1 ∨ b = a2)) ∨ (q = 0 ∧ (b = b1 ∨ b = b2 ∨ b = b3))) (w' := f2 c3 d) (v' := f2 3 2) (n' := f2 3 2) (f' := f2 0 0) s5' (fun p g _ => zz3 _ _ _ _ _) ⟨rfl, rfl⟩ ⟨rfl, rfl⟩ ⟨rfl, rfl⟩ ⟨rfl, rfl⟩
  rw [e5, bind2_some, if_pos rfl]
  -- what process 1 holds
  have mem1 : ∀ b, In 64 b → cont (sI y3 4 0) (1 * 16 + b / 4) (b % 4) = if b = 4 * a2 + 1 then v + 1 else if b = 4 * a1 then v else 0 := by
    intro b hb
    have n0 : ∀ x : Int32, ¬ ((1 : Int32) = 0 ∧ b = x) := fun x e => absurd e.1 (by decide)
    rw [m5 1 b (by decide) hb, if_neg (n0 _), m4 1 b (by decide) hb, if_neg (n0 _), m3 1 b (by decide) hb, if_neg (n0 _), m2 1 b (by decide) hb, m1 1 b (by decide) hb, hC _ _ (pq (by decide) hb).2.2]
    simp only [true_and]
  have ne41 : ¬ 4 * a1 = 4 * a2 + 1 := fun e => by
    have := congrArg (fun x : Int32 => x % 4) e
    simp only [A3, B3] at this
    exact absurd this (by decide)
  -- the end: after the release
  have finale : ∀ (R : Rec) (vt : Int32) (Z : Int32 → Int32 → Prop) (n0 : Int32) (kk : Int), PI R → S5 R Z (f2 0 d) (f2 0 vt) (f2 0 n0) (f2 0 0) s s kk → kk < 50 → 0 ≤ n0.toInt ∧ n0.toInt < 7 → Z 1 a2 → (∀ b, In 64 b → cont R (1 * 16 + b / 4) (b % 4) = if b = 4 * a2 + 1 then v + 1 else if b = 4 * a1 then v else 0) → (∀ b, In 64 b → cont R (0 * 16 + b / 4) (b % 4) = 0) →
      ((s = 0 ∧ vt = 3) ∨ (s = 1 ∧ vt = 2)) →
      bind2 (X_load NF R (1 : Int32) (((4 : Int32) * a2) + (1 : Int32))) (fun r58 q59 => if r58 = (v + (1 : Int32)).toInt64 then (X_virtualTime q59 (1 : Int32)).bind fun r62 => if s = (0 : Int32) then L_law_b402 NF q59 v d r62 (4 : Int32) else L_law_b402 NF q59 v d r62 (3 : Int32) else some (0 : Int32)) = some 1 := by
    intro R vt Z n0 kk hi hT hkk hn hz mm mz hvt
    obtain ⟨g2, g3, e, l, q, ss, m⟩ := ld5 NF hNF (w' := d) hi hT (by omega) (p := 1) (a := 4 * a2 + 1) (by decide) B1 hn rfl (by rw [B2]; exact Or.inl ⟨hz, rfl⟩)
    have tt := S5_z (Z' := fun q b => Z q b ∨ q = 1 ∧ b = (4 * a2 + 1) / 4) (w' := f2 0 d) (v' := f2 0 (vt + 1)) (n' := f2 0 (n0 + 1)) (f' := f2 0 0) ss (fun p g _ => Iff.rfl) ⟨rfl, rfl⟩ ⟨rfl, rfl⟩ ⟨rfl, rfl⟩ ⟨rfl, rfl⟩
    have kp := keep5 NF hNF (p := 1) tt rfl rfl (by show ¬ 4 < 0 + d; rcases dv with e | e <;> rw [e] <;> decide)
    rw [l] at kp
    injection kp with kp
    rw [kp] at e q m
    rw [e, bind2_some, mm _ B1, if_pos rfl, if_pos rfl]
    have tt' := S5_s (c := 0) tt
    generalize sI g2 4 0 = W at tt' q m
    have hp4 : (gI W 0).toInt ≤ 4 := by rw [tt'.cf.1]; decide
    have i1 : In (gI W 0).toInt 1 := by rw [tt'.cf.1]; decide
    have i0 : In (gI W 0).toInt 0 := by rw [tt'.cf.1]; decide
    have ms1 := ms_e NF hNF q i1 tt'.cf.2.1 (fun j => (if j = (4 * a2 + 1).toInt.toNat then v + 1 else 0) + (if j = (4 * a1).toInt.toNat then v else 0)) (fun g w hg hw => by
      obtain ⟨y1, y2, y3', y4⟩ := n4 hg hw
      have := m 1 (n32 (4 * g + w)) (by decide) y3'
      rw [mm _ y3', y1, y2] at this
      rw [this]
      have ei : ∀ x : Int32, In 64 x → (n32 (4 * g + w) = x ↔ 4 * g + w = x.toInt.toNat) := fun x hx => by
        rw [eq_i32, nt _ (by omega)]; omega
      have z1 := ei _ B1
      have z2 := ei _ A1
      by_cases c1 : n32 (4 * g + w) = 4 * a2 + 1
      · have c2 : ¬ n32 (4 * g + w) = 4 * a1 := fun e => ne41 (e.symm.trans c1)
        rw [if_pos c1, if_pos (z1.mp c1), if_neg (fun e => c2 (z2.mpr e)), Int32.add_zero]
      · rw [if_neg c1, if_neg (fun e => c1 (z1.mpr e)), Int32.zero_add]
        by_cases c2 : n32 (4 * g + w) = 4 * a1
        · rw [if_pos c2, if_pos (z2.mp c2)]
        · rw [if_neg c2, if_neg (fun e => c2 (z2.mpr e))])
    rw [ps_add, ps_pt, ps_pt, if_pos (by omega), if_pos (by omega)] at ms1
    have ms0 := ms_e NF hNF q i0 tt'.cf.2.1 (fun _ => 0) (fun g w hg hw => by
      obtain ⟨y1, y2, y3', y4⟩ := n4 hg hw
      have := m 0 (n32 (4 * g + w)) (by decide) y3'
      rw [mz _ y3', y1, y2] at this
      exact this)
    have pz : ∀ n, ps (fun _ => 0) n = 0 := fun n => by
      induction n with
      | zero => rfl
      | succ n ih => show ps (fun _ => 0) n + 0 = 0; rw [ih]; rfl
    rw [pz] at ms0
    have at' : X_activeTotal NF W = some d := by
      rw [at2 NF hNF tt'.cf.1]
      unfold av
      rw [tt'.f0 0 (by decide), tt'.f0 1 (by decide), tt'.w4 0 (by decide), tt'.w4 1 (by decide)]
      show some (0 + 0 + d) = some d
      rw [Int32.add_zero, Int32.zero_add]
    have vv := vv5 v
    have W41 : gA W 4 1 = d := tt'.w4 1 (by decide)
    have W40 : gA W 4 0 = 0 := tt'.w4 0 (by decide)
    have W10 : gA W 1 0 = 0 := tt'.v1 0 (by decide)
    have fin : ∀ x : Int32, vt + 1 = x → L_law_b402 NF W v d (vt + 1) x = some 1 := by
      intro x hx
      unfold L_law_b402
      rw [if_pos hx, wss_e hp4 i1, Option.bind_some, if_pos W41, at', Option.bind_some, if_pos rfl, ms1, Option.bind_some, if_pos vv, ms0, Option.bind_some, if_pos rfl, vt_e hp4 i0, Option.bind_some, if_pos W10, wss_e hp4 i0, Option.bind_some, if_pos W40]
    rw [vt_e hp4 i1, Option.bind_some, tt'.v1 1 (by decide)]
    show (if s = 0 then L_law_b402 NF W v d (vt + 1) 4 else L_law_b402 NF W v d (vt + 1) 3) = some 1
    rcases hvt with ⟨x, y⟩ | ⟨x, y⟩
    · rw [if_pos x]; exact fin 4 (by rw [y]; decide)
    · rw [if_neg (by rw [x]; decide)]; exact fin 3 (by rw [y]; decide)
  -- the release of process 0
  have rel : ∀ (R : Rec) (vt : Int32) (Z : Int32 → Int32 → Prop) (n0 n1 v0 : Int32) (kk : Int), PI R → S5 R Z (f2 c3 d) (f2 v0 vt) (f2 n0 n1) (f2 0 s) s 0 kk → kk < 50 → 0 ≤ n1.toInt ∧ n1.toInt < 7 → Z 1 a2 → (∀ b, In 64 b → cont R (1 * 16 + b / 4) (b % 4) = if b = 4 * a2 + 1 then v + 1 else if b = 4 * a1 then v else 0) →
      (s = 1 → d = 2) → ((s = 0 ∧ vt = 3) ∨ (s = 1 ∧ vt = 2)) → ∀ x, L_law_b312 NF R v a2 d s s x x = some 1 := by
    intro R vt Z n0 n1 v0 kk hi hT hkk hn hz mm hsd hvt x
    obtain ⟨o1, o2, o3, e, dr, hs2, lc, -, pr, r0, ec⟩ := rl_e NF hNF hi (p := 0) (by rw [hT.cf.1]; decide)
    have i2 : ∀ k, gI o2 k = gI R k := fun k => by rw [← hs2]; exact dr.si k
    have a2' : ∀ k, k ≤ 5 → gA o2 k 1 = gA R k 1 := fun k hk => by
      rw [← hs2]
      have : ¬ (1 : Int32) = 0 := by decide
      simp only [gA_sA, this, and_false, if_false]; exact dr.sa k 1 (by omega)
    have a2p : ∀ k, k ≤ 5 → gA o2 k 0 = 0 := fun k hk => by
      have : k = 0 ∨ k = 1 ∨ k = 2 ∨ k = 3 ∨ k = 4 ∨ k = 5 := by omega
      rw [← hs2]
      rcases this with rfl | rfl | rfl | rfl | rfl | rfl <;> simp [gA_sA]
    have a6 : ∀ k y, 6 ≤ k → gA o2 k y = gA o1 k y := fun k y hk => by
      rw [← hs2]; simp [gA_sA, show ¬ k = 0 by omega, show ¬ k = 1 by omega, show ¬ k = 2 by omega, show ¬ k = 3 by omega, show ¬ k = 4 by omega, show ¬ k = 5 by omega]
    have a7 : ∀ q j, In 2 q → In 16 j → gA o2 7 (q * 16 + j) = if q = 0 then 0 else gA R 7 (q * 16 + j) := fun q j hq hj => by
      have e1 := px (i24 hq) hj
      have m : (q * 16 + j).toInt % 16 < (gI R 1).toInt := by rw [hT.cf.2.1, e1]; show _ < (16 : Int); omega
      have i64 : In 64 (q * 16 + j) := by rw [In, e1]; omega
      rw [a6 7 _ (by omega), dr.s7 _ i64 m]
      have qe : (q * 16 + j).toInt / 16 = q.toInt := by rw [e1]; omega
      rw [qe]
      rcases in2 hq with rfl | rfl
      · rw [if_pos rfl, if_pos rfl]
      · rw [if_neg (by decide), if_neg (by decide)]
    have S2 : S5 o2 (fun q b => q = 1 ∧ Z 1 b) (f2 0 d) (f2 0 vt) (f2 0 n1) (f2 0 s) s 0 kk := by
      refine ⟨by rw [i2, i2, i2, i2]; exact hT.cf, fun q b hq hb => ?_, fun q hq => ?_, fun q hq => ?_, fun q hq => ?_, fun q hq => ?_, fun q hq => ?_, fun q j hq hj => ?_, by rw [i2, i2]; exact hT.sk⟩
      · rw [a7 q b hq hb]
        rcases in2 hq with rfl | rfl
        · have := (hT.cz 0 b (by decide) hb).1
          rw [if_pos rfl]
          have z0 : (0 : Int32).toInt = 0 := rfl
          exact ⟨by rw [z0]; omega, ⟨fun _ e => absurd e.1 (by decide), fun _ => rfl⟩⟩
        · rw [if_neg (by decide)]
          have z := hT.cz 1 b (by decide) hb
          exact ⟨z.1, z.2.trans ⟨fun h e => h e.2, fun h e => h ⟨rfl, e⟩⟩⟩
      · rcases in2 hq with rfl | rfl
        · exact a2p 4 (by omega)
        · rw [a2' 4 (by omega)]; exact hT.w4 1 (by decide)
      · rcases in2 hq with rfl | rfl
        · exact a2p 1 (by omega)
        · rw [a2' 1 (by omega)]; exact hT.v1 1 (by decide)
      · rcases in2 hq with rfl | rfl
        · exact a2p 2 (by omega)
        · rw [a2' 2 (by omega)]; exact hT.n2 1 (by decide)
      · rcases in2 hq with rfl | rfl
        · exact a2p 3 (by omega)
        · rw [a2' 3 (by omega)]; exact hT.n3 1 (by decide)
      · rcases in2 hq with rfl | rfl
        · exact a2p 0 (by omega)
        · rw [a2' 0 (by omega)]; exact hT.f0 1 (by decide)
      · rw [a6 6 _ (by omega), dr.sa 6 _ (by omega)]; exact hT.rg q j hq hj
    have M1 : ∀ b, In 64 b → cont (sI o3 4 0) (1 * 16 + b / 4) (b % 4) = if b = 4 * a2 + 1 then v + 1 else if b = 4 * a1 then v else 0 := fun b hb => by
      obtain ⟨y1, y2, y3'⟩ := pq (q := 1) (by decide) hb
      have e1 := px (p := 1) (g := b / 4) (by decide) y1
      rw [ec _ _ y3' y2, if_neg (by rw [e1]; show ¬ (16 * 1 + (b / 4).toInt) / 16 = 0; omega)]; exact mm b hb
    have M0 : ∀ b, In 64 b → cont (sI o3 4 0) (0 * 16 + b / 4) (b % 4) = 0 := fun b hb => by
      obtain ⟨y1, y2, y3'⟩ := pq (q := 0) (by decide) hb
      have e1 := px (p := 0) (g := b / 4) (by decide) y1
      rw [ec _ _ y3' y2, if_pos (by rw [e1]; show (16 * 0 + (b / 4).toInt) / 16 = 0; omega)]
    have S3 : S5 (sI o3 4 0) (fun q b => q = 1 ∧ Z 1 b) (f2 0 d) (f2 0 vt) (f2 0 n1) (f2 0 0) s s kk := by
      rcases hvt with ⟨y, -⟩ | ⟨y, -⟩
      · subst y
        have kp := keep5 NF hNF (p := 0) S2 rfl rfl (by show ¬ 4 < 0 + d; rcases dv with e | e <;> rw [e] <;> decide)
        rw [lc] at kp
        injection kp with kp
        rw [kp]; exact S5_s S2
      · have dd := hsd y
        subst y
        have kp := lcC NF hNF (ob := o2) 0 S2.cf.1 S2.cf.2.2.1 (S2.f0 0 (by decide)) (S2.f0 1 (by decide)) (by rw [S2.w4 0 (by decide)]; show ¬ (4 : Int32) < 0; decide)
        rw [S2.w4 0 (by decide), S2.w4 1 (by decide), if_neg (by show ¬ 4 < 0 + d; rw [dd]; decide), lc] at kp
        injection kp with kp
        rw [kp]
        apply S5_s
        obtain ⟨z1, z2, z3, z4, z5, z6, z7, z8, z9⟩ := S2
        refine ⟨z1, z2, z3, z4, z5, z6, fun q hq => ?_, z8, ⟨z9.1, ?_⟩⟩
        · rcases in2 hq with rfl | rfl
          · exact a2p 0 (by omega)
          · rfl
        · show gI o2 6 + 1 = 1
          rw [z9.2]; rfl
    generalize sI o3 4 0 = W at *
    have hp4 : (gI W 0).toInt ≤ 4 := by rw [S3.cf.1]; decide
    have W01 : gA W 0 1 = 0 := S3.f0 1 (by decide)
    unfold L_law_b312 X_readmissions X_suspensions
    rw [if_pos rfl, e, bind2_some, if_pos rfl, sus_e hp4 (by rw [S3.cf.1]; decide) (Or.inl W01), Option.bind_some, if_pos W01, Option.bind_some, if_pos S3.sk.2, Option.bind_some, if_pos S3.sk.1]
    exact finale W vt _ n1 kk pr S3 hkk hn ⟨rfl, hz⟩ M1 M0 hvt
  -- the two ways of the fifth store
  rcases hs with ⟨c, rfl⟩ | ⟨c, rfl⟩
  · have d2 : d = 2 := by
      rcases dv with e | e
      · rw [e] at c; rcases c3v with e' | e' | e' <;> rw [e'] at c <;> exact absurd c (by decide)
      · exact e
    have c33 : c3 = 3 := by
      rw [d2] at c
      rcases c3v with e' | e' | e'
      · rw [e'] at c; exact absurd c (by decide)
      · rw [e'] at c; exact absurd c (by decide)
      · exact e'
    have lb := lcB NF hNF t5.cf.1 t5.cf.2.2.1 (t5.f0 0 (by decide)) (t5.f0 1 (by decide)) (by rw [t5.w4 0 (by decide)]; exact c33) (by rw [t5.w4 1 (by decide)]; exact d2)
    rw [l5] at lb
    injection lb with lb
    have t6 : S5 y3 (fun q b => (q = 1 ∧ (b = a1 ∨ b = a2)) ∨ (q = 0 ∧ (b = b1 ∨ b = b2 ∨ b = b3))) (f2 c3 d) (f2 3 2) (f2 3 2) (f2 0 1) 1 0 5 := by
      rw [lb]
      obtain ⟨z1, z2, z3, z4, z5, z6, z7, z8, z9⟩ := t5
      refine ⟨z1, z2, z3, z4, z5, z6, fun q hq => ?_, z8, ⟨?_, z9.2⟩⟩
      · rcases in2 hq with rfl | rfl
        · exact z7 0 (by decide)
        · rfl
      · show gI y2 5 + 1 = 1
        rw [z9.1]; rfl
    have t6' := S5_s (c := 0) t6
    generalize sI y3 4 0 = W at *
    have hp4 : (gI W 0).toInt ≤ 4 := by rw [t6'.cf.1]; decide
    have ac : X_activeTotal NF W = some c3 := by
      rw [at2 NF hNF t6'.cf.1]
      unfold av
      rw [t6'.f0 0 (by decide), t6'.f0 1 (by decide), t6'.w4 0 (by decide)]
      show some (0 + c3) = some c3
      rw [Int32.zero_add]
    have W01 : gA W 0 1 = 1 := t6'.f0 1 (by decide)
    rw [sus_e hp4 (by rw [t6'.cf.1]; decide) (Or.inr W01), Option.bind_some, if_pos W01, ac, Option.bind_some, if_neg (by decide)]
    unfold L_law_b246 X_suspensions
    rw [if_pos rfl, Option.bind_some, if_pos t6'.sk.1, ld_s NF q5 (by rw [t6'.cf.1]; decide) (by rw [t6'.cf.2.1]; exact A1) (by rw [W01]; decide), bind2_some, if_neg (by decide)]
    unfold L_law_b291 X_lastStatus
    rw [if_pos rfl, Option.bind_some, if_neg (by decide)]
    exact rel (sI W 4 3) 2 _ 3 2 3 5 (PI_c q5 (fun k hk => by rw [gI_sI, if_neg (by omega)]) (fun _ _ _ => rfl)) (S5_s t6') (by decide) (by decide) (Or.inl ⟨rfl, Or.inr rfl⟩) mem1 (fun _ => d2) (Or.inr ⟨rfl, rfl⟩) 3
  · have hns : ¬ 4 < c3 + d := by rw [Int32.add_comm]; exact c
    have k5 := keep5 NF hNF (p := 0) t5 rfl rfl hns
    rw [l5] at k5
    injection k5 with k5
    rw [k5] at q5 mem1
    rw [k5]
    have t5' := S5_s (c := 0) t5
    generalize sI y2 4 0 = W at *
    have hp4 : (gI W 0).toInt ≤ 4 := by rw [t5'.cf.1]; decide
    have ac : X_activeTotal NF W = some (c3 + d) := by
      rw [at2 NF hNF t5'.cf.1]
      unfold av
      rw [t5'.f0 0 (by decide), t5'.f0 1 (by decide), t5'.w4 0 (by decide), t5'.w4 1 (by decide)]
      show some (0 + c3 + d) = some (c3 + d)
      rw [Int32.zero_add]
    have W01 : gA W 0 1 = 0 := t5'.f0 1 (by decide)
    rw [sus_e hp4 (by rw [t5'.cf.1]; decide) (Or.inl W01), Option.bind_some, if_pos W01, ac, Option.bind_some, if_pos rfl]
    unfold L_law_b246 X_suspensions
    obtain ⟨g2, g3, e, l, q, ss, m⟩ := ld5 NF hNF (w' := d) q5 t5' (by decide) (p := 1) (a := 4 * a1) (by decide) A1 (by decide) rfl (by rw [A2]; exact Or.inl ⟨Or.inl ⟨rfl, Or.inl rfl⟩, rfl⟩)
    have tt := S5_z (Z' := fun q b => ((q = 1 ∧ (b = a1 ∨ b = a2)) ∨ (q = 0 ∧ (b = b1 ∨ b = b2 ∨ b = b3))) ∨ q = 1 ∧ b = (4 * a1) / 4) (w' := f2 c3 d) (v' := f2 3 3) (n' := f2 3 3) (f' := f2 0 0) ss (fun p g _ => Iff.rfl) ⟨rfl, rfl⟩ ⟨rfl, rfl⟩ ⟨rfl, rfl⟩ ⟨rfl, rfl⟩
    have kp := keep5 NF hNF (p := 1) tt rfl rfl hns
    rw [l] at kp
    injection kp with kp
    rw [kp] at e q m
    rw [if_pos rfl, Option.bind_some, if_pos t5'.sk.1, e, bind2_some, if_pos rfl, mem1 _ A1, if_neg ne41, if_pos rfl]
    unfold L_law_b291 X_lastStatus
    rw [if_pos rfl, Option.bind_some, if_pos rfl]
    exact rel (sI g2 4 0) 3 _ 3 3 3 6 q (S5_s tt) (by decide) (by decide) (Or.inl (Or.inl ⟨rfl, Or.inr rfl⟩)) (fun b hb => by rw [m 1 b (by decide) hb]; exact mem1 b hb) (fun e => absurd e (by decide)) (Or.inl ⟨rfl, rfl⟩) 0
theorem owed : ∀ (i0 i1 i2 i3 i4 i5 : Int32), ∃ NF, L_law NF i0 i1 i2 i3 i4 i5 = some 1 := by
  intro i0 i1 i2 i3 i4 v
  refine ⟨100, ?_⟩
  obtain ⟨Q, e, ⟨q0, q1, q2, q3, q4'⟩, qA, qp, qc⟩ := ini 100 (by omega) (P := 2) (N := 16) (F := 4) (T := 8) (by decide) (by decide) (by decide) (by decide)
  have hS : S5 Q (fun _ _ => False) (fun _ => 0) (fun _ => 0) (fun _ => 0) (fun _ => 0) 0 0 0 := by
    refine ⟨⟨q0, q1, q2, q3⟩, fun p g _ _ => ?_, fun p _ => qA 4 p (by omega), fun p _ => qA 1 p (by omega), fun p _ => qA 2 p (by omega), fun p _ => qA 3 p (by omega), fun p _ => qA 0 p (by omega), fun p j _ _ => ?_, ⟨q4' 5 (by omega), q4' 6 (by omega)⟩⟩
    · rw [qA 7 _ (by omega)]; exact ⟨by decide, ⟨fun _ e => e, fun _ => rfl⟩⟩
    · rw [qA 6 _ (by omega)]; decide
  have h1 := in16 i0
  have h2 := in16 i1
  have h3 := in16 i2
  have h4 := in16 i3
  have h5 := in16 i4
  unfold L_law
  rw [e, Option.bind_some]
  generalize i0 &&& 15 = a1 at h1 ⊢
  generalize i1 &&& 15 = a2 at h2 ⊢
  generalize i2 &&& 15 = b1 at h3 ⊢
  generalize i3 &&& 15 = b2 at h4 ⊢
  generalize i4 &&& 15 = b3 at h5 ⊢
  have b90 : ∀ d c2 c3, ((a1 = a2 ∧ d = 1) ∨ (¬ a1 = a2 ∧ d = 2)) → ((b2 = b1 ∧ c2 = 1) ∨ (¬ b2 = b1 ∧ c2 = 2)) → (((b3 = b1 ∨ b3 = b2) ∧ c3 = c2) ∨ (¬ (b3 = b1 ∨ b3 = b2) ∧ c3 = c2 + 1)) → L_law_b90 100 Q v a1 a2 b1 b2 b3 d c3 = some 1 := by
    intro d c2 c3 x1 x2 x3
    unfold L_law_b90 L_law_b104
    by_cases c : 4 < d + c3
    · rw [if_pos c, if_neg (by decide)]; exact run5 100 (by omega) qp hS qc v a1 a2 b1 b2 b3 d c2 c3 1 h1 h2 h3 h4 h5 x1 x2 x3 (Or.inl ⟨c, rfl⟩)
    · rw [if_neg c, if_pos rfl]; exact run5 100 (by omega) qp hS qc v a1 a2 b1 b2 b3 d c2 c3 0 h1 h2 h3 h4 h5 x1 x2 x3 (Or.inr ⟨c, rfl⟩)
  have b73 : ∀ d c2, ((a1 = a2 ∧ d = 1) ∨ (¬ a1 = a2 ∧ d = 2)) → ((b2 = b1 ∧ c2 = 1) ∨ (¬ b2 = b1 ∧ c2 = 2)) → L_law_b73 100 Q v a1 a2 b1 b2 b3 d c2 = some 1 := by
    intro d c2 x1 x2
    unfold L_law_b73
    by_cases c : b3 = b1
    · rw [if_pos c]; exact b90 d c2 c2 x1 x2 (Or.inl ⟨Or.inl c, rfl⟩)
    · rw [if_neg c]
      by_cases c' : b3 = b2
      · rw [if_pos c']; exact b90 d c2 c2 x1 x2 (Or.inl ⟨Or.inr c', rfl⟩)
      · rw [if_neg c']; exact b90 d c2 (c2 + 1) x1 x2 (Or.inr ⟨fun e => e.elim c c', rfl⟩)
  have b58 : ∀ d, ((a1 = a2 ∧ d = 1) ∨ (¬ a1 = a2 ∧ d = 2)) → L_law_b58 100 Q v a1 a2 b1 b2 b3 d = some 1 := by
    intro d x1
    unfold L_law_b58
    by_cases c : b2 = b1
    · rw [if_pos c]; exact b73 d 1 x1 (Or.inl ⟨c, rfl⟩)
    · rw [if_neg c]; exact b73 d (1 + 1) x1 (Or.inr ⟨c, rfl⟩)
  by_cases c : a1 = a2
  · rw [if_pos c]; exact b58 1 (Or.inl ⟨c, rfl⟩)
  · rw [if_neg c]; exact b58 2 (Or.inr ⟨c, rfl⟩)
-- owed : ∀ i0 i1 i2 i3 i4 i5 : Int32, ∃ NF : Nat, L_law NF i0 i1 i2 i3 i4 i5 = some 1
--COMES--
set_option maxRecDepth 65536 in
set_option maxHeartbeats 4000000 in
theorem comes_1 {Post : Tables → Env → Array Value → State → Outcome → State → Prop} (hpost : ∀ tb e args s v u, (limb_1_1.after args s (.returned v) u = true ∧ limb_1_2.after args s (.returned v) u = true ∧ True) → FrameEnd s (.returned v) u (Jvm.fieldLocs frame_1_writes args s ++ Jvm.arrayLocs frame_1_arrays args s ++ Jvm.staticLocs frame_1_statics s) 48 2048 → Post tb e args s (.returned v) u) :
    ArmFor flags0 classFile x code maxLocals ret World_1 tables_1 room_1 Calls_1 rest_1 Pre_1 Post := by
  intro l hfl _ _ p e ha hc hk s m args below hf hA hF happ hP
  obtain ⟨hcalls, hrest, hpre⟩ := hP
  obtain ⟨-, -, -, hnamed, -, -, -, hat⟩ := (Spec.applies_iff hf).mp happ
  obtain ⟨hg, hn⟩ := and_e (Cond.before_iff.mp (show (Jvm.Cond.and given_1 narrow_1).before args s = true from hpre))
  obtain ⟨hcnt, hg⟩ := and_e hg
  obtain ⟨w0, w1, w2, w3, w4, w5, rfl⟩ : ∃ w0 w1 w2 w3 w4 w5 : Value, args = #[w0, w1, w2, w3, w4, w5] := by
    have hs : args.size = 6 := by simpa [Cond.value, given_1] using hcnt
    obtain ⟨L⟩ := args
    match L, hs with
    | [w0, w1, w2, w3, w4, w5], _ => exact ⟨w0, w1, w2, w3, w4, w5, rfl⟩
  have hw := fun d (hd : d ∈ tables_1) => atoms_spec (ws := Jvm.Cond.code x code maxLocals ret :: tables_1) hat d (List.mem_cons_of_mem _ hd)
  have hfit : Fit s := fun {y c} hc i hi => by
    obtain ⟨ha, rfl⟩ := Array.getElem?_eq_some_iff.mp hc
    have q := List.all_eq_true.mp ((Array.all_eq_true_iff_forall_mem.mp hF) _ (Array.getElem_mem ha)) i (List.mem_range.mpr hi)
    simpa [Array.getElem?_eq_getElem hi] using q
  obtain ⟨h0, hg⟩ := and_e hg
  obtain ⟨i0, e0⟩ := is_v h0
  obtain rfl : w0 = (.int i0) := Option.some.inj e0
  obtain ⟨h1, hg⟩ := and_e hg
  obtain ⟨i1, e1⟩ := is_v h1
  obtain rfl : w1 = (.int i1) := Option.some.inj e1
  obtain ⟨h2, hg⟩ := and_e hg
  obtain ⟨i2, e2⟩ := is_v h2
  obtain rfl : w2 = (.int i2) := Option.some.inj e2
  obtain ⟨h3, hg⟩ := and_e hg
  obtain ⟨i3, e3⟩ := is_v h3
  obtain rfl : w3 = (.int i3) := Option.some.inj e3
  obtain ⟨h4, hg⟩ := and_e hg
  obtain ⟨i4, e4⟩ := is_v h4
  obtain rfl : w4 = (.int i4) := Option.some.inj e4
  have h5 := hg
  obtain ⟨i5, e5⟩ := is_v h5
  obtain rfl : w5 = (.int i5) := Option.some.inj e5
  obtain ⟨NF, hlaw⟩ := owed i0 i1 i2 i3 i4 i5
  have hp := L_law_pay (C := (l, s, s.heap.size, #[.int i0, .int i1, .int i2, .int i3, .int i4, .int i5])) hlaw hw s.heap (Rep.start s) tables_1
  obtain ⟨n, o, h1, h2, h3, v, L, rfl, ⟨N, G', -, rfl⟩, hq⟩ := hp p e ha hc hk s m _ below hf ((Spec.applies_iff_loose hf).mp happ).1 ⟨rfl, State.Warmed39.refl s, rfl⟩ trivial
  refine ⟨n, _, h1, h2, h3, hpost _ _ _ _ _ _ ⟨Cond.after_iff.mpr rfl, Cond.after_iff.mpr (eq_i res_at (Term.int_eval (1)) rfl), trivial⟩ ⟨hq.1, hq.2.1, (hq.2.2.sift fun y hy => Or.inr (N y hy)).mono (by decide) (by decide)⟩⟩
theorem main_1_1 : Claimed_1_1 := comes_1 fun _ _ _ _ _ _ h hF => ⟨h.1, hF⟩
theorem main_1_2 : Claimed_1_2 := comes_1 fun _ _ _ _ _ _ h hF => ⟨h.2.1, hF⟩
end Jvm.Pilot.@@N@@
namespace Jvm.Pilot.@@N@@
open Jvm Jvm.ClassFile Sem Op Lib Jvm.Free Jvm.Stand Jvm.Pilot.@@N@@.Jvm.D
/-! MADE BY PROGRAM (witnessworld.py) out of the Statement's table words and the real class files: 11 classes; the members and pool entries that the words name. The judged class is class 1, her method 1. -/
namespace start1
open Jvm.ClassFile
def u (s : String) : CpInfo := .utf8 (stringToUtf16 s)
/-- a pool by its gaps: so many unusable entries, then the entry; so many at the end -/
def gap : Nat → List CpInfo → List CpInfo
  | 0, r => r
  | n + 1, r => .unusable :: gap n r
def poolList (es : List (Nat × CpInfo)) (last : Nat) : List CpInfo := es.foldr (fun e r => gap e.1 (e.2 :: r)) (gap last [])
def pool (es : List (Nat × CpInfo)) (last : Nat) : Array CpInfo := ⟨poolList es last⟩
def fileOf (pool : Array CpInfo) (this : Nat) (attrs : Array Attribute := #[]) (ms : Array MethodInfo := #[]) (fl : Nat := 33) (sup : Nat := 0) (ifs : Array Nat := #[]) (fds : Array FieldInfo := #[]) : ClassFile where
  minorVersion := 0
  majorVersion := 65
  constantPool := pool
  accessFlags := fl
  thisClass := this
  superClass := sup
  interfaces := ifs
  fields := fds
  methods := ms
  attributes := attrs
def plain (name : String) (sup : Option ClassId) : Class where
  name := name
  kind := .ordinary
  loader := none
  accessFlags := 33
  super := sup
  interfaces := #[]
  cf := none
  fields := #[]
  methods := #[]
  instanceTypes := #[]
  staticTypes := #[]
  resolved := #[]
  callSites := []
  init := .initialized
  statics := none
  mirror := none

def pool0 : Array CpInfo := pool [(5, u "<init>"), (0, u "()V"), (1, .class_ 10), (1, u "java/lang/Object")] 113

def k0c0 : Code := { maxStack := 0, maxLocals := 1, code := object_method_1_code, exceptionTable := #[], attributes := #[] }
def k0m0 : Method := { name := "<init>", desc := "()V", sig := { parameters := [], returnType := none }, accessFlags := 1, code := some k0c0 }
/-- java/lang/Object -/
def k0 : Class := { plain "java/lang/Object" none with
  accessFlags := 33
  interfaces := #[]
  cf := some (fileOf pool0 8 #[] #[{ accessFlags := 1, nameIndex := 5, descriptorIndex := 6, attributes := #[] }] 33 0 #[] #[])
  fields := #[]
  methods := #[k0m0]
  instanceTypes := #[]
  staticTypes := #[]
  resolved := Array.replicate 124 none
  statics := none }

def pool1 : Array CpInfo := pool [(2, .class_ 4), (1, u "java/lang/Object"), (0, u "<init>"), (0, u "()V"), (0, .class_ 8), (0, u "WsClockPager"), (0, .methodref 7 10), (0, .nameAndType 5 11), (0, u "(IIII)V"), (0, .methodref 7 13), (0, .nameAndType 14 15), (0, u "store"), (0, u "(III)I"), (0, .methodref 7 17), (0, .nameAndType 18 19), (0, u "isSuspended"), (0, u "(I)Z"), (0, .methodref 7 21), (0, .nameAndType 22 23), (0, u "activeTotal"), (0, u "()I"), (0, .methodref 7 25), (0, .nameAndType 26 23), (0, u "suspensions"), (0, .methodref 7 28), (0, .nameAndType 29 30), (0, u "load"), (0, u "(II)J"), (0, .long 9223372036854775808), (1, .methodref 7 34), (0, .nameAndType 35 23), (0, u "lastStatus"), (0, .methodref 7 37), (0, .nameAndType 38 39), (0, u "release"), (0, u "(I)I"), (0, .methodref 7 41), (0, .nameAndType 42 23), (0, u "readmissions"), (0, .methodref 7 44), (0, .nameAndType 45 39), (0, u "virtualTime"), (0, .methodref 7 47), (0, .nameAndType 48 39), (0, u "workingSetSize"), (0, .methodref 7 50), (0, .nameAndType 51 39), (0, u "memorySum"), (0, .class_ 53), (0, u "WsClockPagerL3"), (2, u "law"), (0, u "(IIIIII)Z")] 3

def k1m0 : Method := { name := "<init>", desc := "()V", sig := { parameters := [], returnType := none }, accessFlags := 1, code := none }
def k1c1 : Code := { maxStack := 6, maxLocals := 18, code := code, exceptionTable := #[], attributes := #[] }
def k1m1 : Method := { name := "law", desc := "(IIIIII)Z", sig := { parameters := [.int, .int, .int, .int, .int, .int], returnType := some .boolean }, accessFlags := 9, code := some k1c1 }
/-- WsClockPagerL3 -/
def k1 : Class := { plain "WsClockPagerL3" (some 0) with
  accessFlags := 49
  interfaces := #[]
  cf := some (fileOf pool1 52 #[] #[{ accessFlags := 1, nameIndex := 5, descriptorIndex := 6, attributes := #[] }, { accessFlags := 9, nameIndex := 56, descriptorIndex := 57, attributes := #[] }] 49 2 #[] #[])
  fields := #[]
  methods := #[k1m0, k1m1]
  instanceTypes := #[]
  staticTypes := #[]
  resolved := Array.replicate 61 none
  statics := none }

def pool2 : Array CpInfo := pool [(1, .methodref 2 3), (0, .class_ 4), (0, .nameAndType 5 6), (0, u "java/lang/Object"), (0, u "<init>"), (0, u "()V"), (0, .fieldref 8 9), (0, .class_ 10), (0, .nameAndType 11 12), (0, u "WsClockPager"), (0, u "suspended"), (0, u "[Z"), (0, .fieldref 8 14), (0, .nameAndType 15 16), (0, u "vtime"), (0, u "[I"), (0, .fieldref 8 18), (0, .nameAndType 19 16), (0, u "winLen"), (0, .fieldref 8 21), (0, .nameAndType 22 16), (0, u "winHead"), (0, .fieldref 8 24), (0, .nameAndType 25 16), (0, u "wsSize"), (0, .fieldref 8 27), (0, .nameAndType 28 16), (0, u "touchedCount"), (0, .fieldref 8 30), (0, .nameAndType 31 16), (0, u "ring"), (0, .fieldref 8 33), (0, .nameAndType 34 16), (0, u "winCount"), (0, .fieldref 8 36), (0, .nameAndType 37 12), (0, u "touched"), (0, .fieldref 8 39), (0, .nameAndType 40 16), (0, u "pageFrame"), (0, .fieldref 8 42), (0, .nameAndType 43 16), (0, u "pageSlot"), (0, .fieldref 8 45), (0, .nameAndType 46 16), (0, u "pageLastUse"), (0, .fieldref 8 48), (0, .nameAndType 49 16), (0, u "frameOwner"), (0, .fieldref 8 51), (0, .nameAndType 52 12), (0, u "frameRef"), (0, .fieldref 8 54), (0, .nameAndType 55 12), (0, u "frameDirty"), (0, .fieldref 8 57), (0, .nameAndType 58 16), (0, u "frameWords"), (0, .fieldref 8 60), (0, .nameAndType 61 12), (0, u "slotUsed"), (0, .fieldref 8 63), (0, .nameAndType 64 16), (0, u "swapWords"), (0, .methodref 8 66), (0, .nameAndType 67 68), (0, u "clamp"), (0, u "(III)I"), (0, .fieldref 8 70), (0, .nameAndType 71 72), (0, u "procs"), (0, u "I"), (0, .fieldref 8 74), (0, .nameAndType 75 72), (0, u "pages"), (0, .fieldref 8 77), (0, .nameAndType 78 72), (0, u "frames"), (0, .fieldref 8 80), (0, .nameAndType 81 72), (0, u "tau"), (0, .fieldref 8 83), (0, .nameAndType 84 72), (0, u "status"), (0, .fieldref 8 86), (0, .nameAndType 87 72), (0, u "suspensionCount"), (0, .fieldref 8 89), (0, .nameAndType 90 72), (0, u "readmissionCount"), (0, .fieldref 8 92), (0, .nameAndType 93 72), (0, u "hand"), (0, .methodref 8 95), (0, .nameAndType 96 97), (0, u "check"), (0, u "(II)I"), (0, .long 9223372036854775808), (1, .methodref 8 101), (0, .nameAndType 102 97), (0, u "ensureResident"), (0, .methodref 8 104), (0, .nameAndType 105 106), (0, u "recordReference"), (0, u "(II)V"), (0, .methodref 8 108), (0, .nameAndType 109 110), (0, u "loadControl"), (0, u "(I)V"), (0, .methodref 8 112), (0, .nameAndType 113 114), (0, u "validPid"), (0, u "(I)Z"), (0, .methodref 8 116), (0, .nameAndType 117 110), (0, u "discardPage"), (0, .methodref 8 119), (0, .nameAndType 120 97), (0, u "readWord"), (0, .methodref 8 122), (0, .nameAndType 123 106), (0, u "pushWindow"), (0, .methodref 8 125), (0, .nameAndType 126 127), (0, u "activeTotal"), (0, u "()I"), (0, .methodref 8 129), (0, .nameAndType 130 131), (0, u "pickProcessToSuspend"), (0, u "(I)I"), (0, .methodref 8 133), (0, .nameAndType 134 127), (0, u "findFreeFrame"), (0, .methodref 8 136), (0, .nameAndType 137 127), (0, u "chooseVictim"), (0, .methodref 8 139), (0, .nameAndType 140 110), (0, u "evictFrame"), (0, .methodref 8 142), (0, .nameAndType 143 106), (0, u "fillFrame"), (0, .methodref 8 145), (0, .nameAndType 146 110), (0, u "writeBack"), (0, .methodref 8 148), (0, .nameAndType 149 127), (0, u "allocSlot"), (0, u "PAGE_WORDS"), (2, u "OK"), (1, u "BAD_PID"), (1, u "BAD_ADDR"), (1, u "SUSPENDED"), (1, u "REFUSED"), (0, u "J"), (0, u "CFG_PROCS"), (0, u "CFG_PAGES"), (0, u "CFG_FRAMES"), (0, u "CFG_TAU"), (0, u "(IIII)V"), (3, u "load"), (0, u "(II)J"), (0, u "store"), (0, u "release"), (0, u "lastStatus"), (0, u "isSuspended"), (0, u "virtualTime"), (0, u "workingSetSize"), (2, u "suspensions"), (0, u "readmissions"), (1, u "memorySum")] 3

def k2c0 : Code := { maxStack := 5, maxLocals := 6, code := prog_1_method_1_code, exceptionTable := #[], attributes := #[] }
def k2m0 : Method := { name := "<init>", desc := "(IIII)V", sig := { parameters := [.int, .int, .int, .int], returnType := none }, accessFlags := 1, code := some k2c0 }
def k2c1 : Code := { maxStack := 4, maxLocals := 7, code := prog_1_method_2_code, exceptionTable := #[], attributes := #[] }
def k2m1 : Method := { name := "load", desc := "(II)J", sig := { parameters := [.int, .int], returnType := some .long }, accessFlags := 1, code := some k2c1 }
def k2c2 : Code := { maxStack := 4, maxLocals := 7, code := prog_1_method_3_code, exceptionTable := #[], attributes := #[] }
def k2m2 : Method := { name := "store", desc := "(III)I", sig := { parameters := [.int, .int, .int], returnType := some .int }, accessFlags := 1, code := some k2c2 }
def k2c3 : Code := { maxStack := 3, maxLocals := 3, code := prog_1_method_4_code, exceptionTable := #[], attributes := #[] }
def k2m3 : Method := { name := "release", desc := "(I)I", sig := { parameters := [.int], returnType := some .int }, accessFlags := 1, code := some k2c3 }
def k2c4 : Code := { maxStack := 1, maxLocals := 1, code := prog_1_method_5_code, exceptionTable := #[], attributes := #[] }
def k2m4 : Method := { name := "lastStatus", desc := "()I", sig := { parameters := [], returnType := some .int }, accessFlags := 1, code := some k2c4 }
def k2c5 : Code := { maxStack := 2, maxLocals := 2, code := prog_1_method_6_code, exceptionTable := #[], attributes := #[] }
def k2m5 : Method := { name := "isSuspended", desc := "(I)Z", sig := { parameters := [.int], returnType := some .boolean }, accessFlags := 1, code := some k2c5 }
def k2c6 : Code := { maxStack := 2, maxLocals := 2, code := prog_1_method_7_code, exceptionTable := #[], attributes := #[] }
def k2m6 : Method := { name := "virtualTime", desc := "(I)I", sig := { parameters := [.int], returnType := some .int }, accessFlags := 1, code := some k2c6 }
def k2c7 : Code := { maxStack := 2, maxLocals := 2, code := prog_1_method_8_code, exceptionTable := #[], attributes := #[] }
def k2m7 : Method := { name := "workingSetSize", desc := "(I)I", sig := { parameters := [.int], returnType := some .int }, accessFlags := 1, code := some k2c7 }
def k2c8 : Code := { maxStack := 3, maxLocals := 3, code := prog_1_method_10_code, exceptionTable := #[], attributes := #[] }
def k2m8 : Method := { name := "activeTotal", desc := "()I", sig := { parameters := [], returnType := some .int }, accessFlags := 1, code := some k2c8 }
def k2c9 : Code := { maxStack := 1, maxLocals := 1, code := prog_1_method_11_code, exceptionTable := #[], attributes := #[] }
def k2m9 : Method := { name := "suspensions", desc := "()I", sig := { parameters := [], returnType := some .int }, accessFlags := 1, code := some k2c9 }
def k2c10 : Code := { maxStack := 1, maxLocals := 1, code := prog_1_method_12_code, exceptionTable := #[], attributes := #[] }
def k2m10 : Method := { name := "readmissions", desc := "()I", sig := { parameters := [], returnType := some .int }, accessFlags := 1, code := some k2c10 }
def k2c11 : Code := { maxStack := 4, maxLocals := 6, code := prog_1_method_14_code, exceptionTable := #[], attributes := #[] }
def k2m11 : Method := { name := "memorySum", desc := "(I)I", sig := { parameters := [.int], returnType := some .int }, accessFlags := 1, code := some k2c11 }
def k2c12 : Code := { maxStack := 2, maxLocals := 4, code := prog_1_method_16_code, exceptionTable := #[], attributes := #[] }
def k2m12 : Method := { name := "clamp", desc := "(III)I", sig := { parameters := [.int, .int, .int], returnType := some .int }, accessFlags := 2, code := some k2c12 }
def k2c13 : Code := { maxStack := 2, maxLocals := 2, code := prog_1_method_17_code, exceptionTable := #[], attributes := #[] }
def k2m13 : Method := { name := "validPid", desc := "(I)Z", sig := { parameters := [.int], returnType := some .boolean }, accessFlags := 2, code := some k2c13 }
def k2c14 : Code := { maxStack := 3, maxLocals := 3, code := prog_1_method_18_code, exceptionTable := #[], attributes := #[] }
def k2m14 : Method := { name := "check", desc := "(II)I", sig := { parameters := [.int, .int], returnType := some .int }, accessFlags := 2, code := some k2c14 }
def k2c15 : Code := { maxStack := 3, maxLocals := 5, code := prog_1_method_19_code, exceptionTable := #[], attributes := #[] }
def k2m15 : Method := { name := "readWord", desc := "(II)I", sig := { parameters := [.int, .int], returnType := some .int }, accessFlags := 2, code := some k2c15 }
def k2c16 : Code := { maxStack := 3, maxLocals := 4, code := prog_1_method_20_code, exceptionTable := #[], attributes := #[] }
def k2m16 : Method := { name := "discardPage", desc := "(I)V", sig := { parameters := [.int], returnType := none }, accessFlags := 2, code := some k2c16 }
def k2c17 : Code := { maxStack := 4, maxLocals := 5, code := prog_1_method_21_code, exceptionTable := #[], attributes := #[] }
def k2m17 : Method := { name := "recordReference", desc := "(II)V", sig := { parameters := [.int, .int], returnType := none }, accessFlags := 2, code := some k2c17 }
def k2c18 : Code := { maxStack := 5, maxLocals := 6, code := prog_1_method_22_code, exceptionTable := #[], attributes := #[] }
def k2m18 : Method := { name := "pushWindow", desc := "(II)V", sig := { parameters := [.int, .int], returnType := none }, accessFlags := 2, code := some k2c18 }
def k2c19 : Code := { maxStack := 3, maxLocals := 5, code := prog_1_method_23_code, exceptionTable := #[], attributes := #[] }
def k2m19 : Method := { name := "loadControl", desc := "(I)V", sig := { parameters := [.int], returnType := none }, accessFlags := 2, code := some k2c19 }
def k2c20 : Code := { maxStack := 2, maxLocals := 3, code := prog_1_method_24_code, exceptionTable := #[], attributes := #[] }
def k2m20 : Method := { name := "pickProcessToSuspend", desc := "(I)I", sig := { parameters := [.int], returnType := some .int }, accessFlags := 2, code := some k2c20 }
def k2c21 : Code := { maxStack := 3, maxLocals := 5, code := prog_1_method_25_code, exceptionTable := #[], attributes := #[] }
def k2m21 : Method := { name := "ensureResident", desc := "(II)I", sig := { parameters := [.int, .int], returnType := some .int }, accessFlags := 2, code := some k2c21 }
def k2c22 : Code := { maxStack := 2, maxLocals := 2, code := prog_1_method_26_code, exceptionTable := #[], attributes := #[] }
def k2m22 : Method := { name := "findFreeFrame", desc := "()I", sig := { parameters := [], returnType := some .int }, accessFlags := 2, code := some k2c22 }
def k2c23 : Code := { maxStack := 5, maxLocals := 6, code := prog_1_method_27_code, exceptionTable := #[], attributes := #[] }
def k2m23 : Method := { name := "fillFrame", desc := "(II)V", sig := { parameters := [.int, .int], returnType := none }, accessFlags := 2, code := some k2c23 }
def k2c24 : Code := { maxStack := 4, maxLocals := 7, code := prog_1_method_28_code, exceptionTable := #[], attributes := #[] }
def k2m24 : Method := { name := "chooseVictim", desc := "()I", sig := { parameters := [], returnType := some .int }, accessFlags := 2, code := some k2c24 }
def k2c25 : Code := { maxStack := 3, maxLocals := 3, code := prog_1_method_29_code, exceptionTable := #[], attributes := #[] }
def k2m25 : Method := { name := "evictFrame", desc := "(I)V", sig := { parameters := [.int], returnType := none }, accessFlags := 2, code := some k2c25 }
def k2c26 : Code := { maxStack := 5, maxLocals := 5, code := prog_1_method_30_code, exceptionTable := #[], attributes := #[] }
def k2m26 : Method := { name := "writeBack", desc := "(I)V", sig := { parameters := [.int], returnType := none }, accessFlags := 2, code := some k2c26 }
def k2c27 : Code := { maxStack := 2, maxLocals := 3, code := prog_1_method_31_code, exceptionTable := #[], attributes := #[] }
def k2m27 : Method := { name := "allocSlot", desc := "()I", sig := { parameters := [], returnType := some .int }, accessFlags := 2, code := some k2c27 }
/-- WsClockPager -/
def k2 : Class := { plain "WsClockPager" (some 0) with
  accessFlags := 49
  interfaces := #[]
  cf := some (fileOf pool2 8 #[] #[{ accessFlags := 1, nameIndex := 5, descriptorIndex := 167, attributes := #[] }, { accessFlags := 1, nameIndex := 171, descriptorIndex := 172, attributes := #[] }, { accessFlags := 1, nameIndex := 173, descriptorIndex := 68, attributes := #[] }, { accessFlags := 1, nameIndex := 174, descriptorIndex := 131, attributes := #[] }, { accessFlags := 1, nameIndex := 175, descriptorIndex := 127, attributes := #[] }, { accessFlags := 1, nameIndex := 176, descriptorIndex := 114, attributes := #[] }, { accessFlags := 1, nameIndex := 177, descriptorIndex := 131, attributes := #[] }, { accessFlags := 1, nameIndex := 178, descriptorIndex := 131, attributes := #[] }, { accessFlags := 1, nameIndex := 126, descriptorIndex := 127, attributes := #[] }, { accessFlags := 1, nameIndex := 181, descriptorIndex := 127, attributes := #[] }, { accessFlags := 1, nameIndex := 182, descriptorIndex := 127, attributes := #[] }, { accessFlags := 1, nameIndex := 184, descriptorIndex := 131, attributes := #[] }, { accessFlags := 2, nameIndex := 67, descriptorIndex := 68, attributes := #[] }, { accessFlags := 2, nameIndex := 113, descriptorIndex := 114, attributes := #[] }, { accessFlags := 2, nameIndex := 96, descriptorIndex := 97, attributes := #[] }, { accessFlags := 2, nameIndex := 120, descriptorIndex := 97, attributes := #[] }, { accessFlags := 2, nameIndex := 117, descriptorIndex := 110, attributes := #[] }, { accessFlags := 2, nameIndex := 105, descriptorIndex := 106, attributes := #[] }, { accessFlags := 2, nameIndex := 123, descriptorIndex := 106, attributes := #[] }, { accessFlags := 2, nameIndex := 109, descriptorIndex := 110, attributes := #[] }, { accessFlags := 2, nameIndex := 130, descriptorIndex := 131, attributes := #[] }, { accessFlags := 2, nameIndex := 102, descriptorIndex := 97, attributes := #[] }, { accessFlags := 2, nameIndex := 134, descriptorIndex := 127, attributes := #[] }, { accessFlags := 2, nameIndex := 143, descriptorIndex := 106, attributes := #[] }, { accessFlags := 2, nameIndex := 137, descriptorIndex := 127, attributes := #[] }, { accessFlags := 2, nameIndex := 140, descriptorIndex := 110, attributes := #[] }, { accessFlags := 2, nameIndex := 146, descriptorIndex := 110, attributes := #[] }, { accessFlags := 2, nameIndex := 149, descriptorIndex := 127, attributes := #[] }] 49 2 #[] #[{ accessFlags := 25, nameIndex := 150, descriptorIndex := 72, attributes := #[] }, { accessFlags := 25, nameIndex := 153, descriptorIndex := 72, attributes := #[] }, { accessFlags := 25, nameIndex := 155, descriptorIndex := 72, attributes := #[] }, { accessFlags := 25, nameIndex := 157, descriptorIndex := 72, attributes := #[] }, { accessFlags := 25, nameIndex := 159, descriptorIndex := 72, attributes := #[] }, { accessFlags := 25, nameIndex := 161, descriptorIndex := 162, attributes := #[] }, { accessFlags := 25, nameIndex := 163, descriptorIndex := 72, attributes := #[] }, { accessFlags := 25, nameIndex := 164, descriptorIndex := 72, attributes := #[] }, { accessFlags := 25, nameIndex := 165, descriptorIndex := 72, attributes := #[] }, { accessFlags := 25, nameIndex := 166, descriptorIndex := 72, attributes := #[] }, { accessFlags := 2, nameIndex := 71, descriptorIndex := 72, attributes := #[] }, { accessFlags := 2, nameIndex := 75, descriptorIndex := 72, attributes := #[] }, { accessFlags := 2, nameIndex := 78, descriptorIndex := 72, attributes := #[] }, { accessFlags := 2, nameIndex := 81, descriptorIndex := 72, attributes := #[] }, { accessFlags := 2, nameIndex := 84, descriptorIndex := 72, attributes := #[] }, { accessFlags := 2, nameIndex := 87, descriptorIndex := 72, attributes := #[] }, { accessFlags := 2, nameIndex := 90, descriptorIndex := 72, attributes := #[] }, { accessFlags := 2, nameIndex := 11, descriptorIndex := 12, attributes := #[] }, { accessFlags := 2, nameIndex := 15, descriptorIndex := 16, attributes := #[] }, { accessFlags := 2, nameIndex := 19, descriptorIndex := 16, attributes := #[] }, { accessFlags := 2, nameIndex := 22, descriptorIndex := 16, attributes := #[] }, { accessFlags := 2, nameIndex := 25, descriptorIndex := 16, attributes := #[] }, { accessFlags := 2, nameIndex := 28, descriptorIndex := 16, attributes := #[] }, { accessFlags := 2, nameIndex := 31, descriptorIndex := 16, attributes := #[] }, { accessFlags := 2, nameIndex := 34, descriptorIndex := 16, attributes := #[] }, { accessFlags := 2, nameIndex := 37, descriptorIndex := 12, attributes := #[] }, { accessFlags := 2, nameIndex := 40, descriptorIndex := 16, attributes := #[] }, { accessFlags := 2, nameIndex := 43, descriptorIndex := 16, attributes := #[] }, { accessFlags := 2, nameIndex := 46, descriptorIndex := 16, attributes := #[] }, { accessFlags := 2, nameIndex := 49, descriptorIndex := 16, attributes := #[] }, { accessFlags := 2, nameIndex := 52, descriptorIndex := 12, attributes := #[] }, { accessFlags := 2, nameIndex := 55, descriptorIndex := 12, attributes := #[] }, { accessFlags := 2, nameIndex := 58, descriptorIndex := 16, attributes := #[] }, { accessFlags := 2, nameIndex := 93, descriptorIndex := 72, attributes := #[] }, { accessFlags := 2, nameIndex := 61, descriptorIndex := 12, attributes := #[] }, { accessFlags := 2, nameIndex := 64, descriptorIndex := 16, attributes := #[] }])
  fields := #[{ name := "PAGE_WORDS", type := .int, accessFlags := 25, slot := 0, constantValue := 0 }, { name := "OK", type := .int, accessFlags := 25, slot := 1, constantValue := 0 }, { name := "BAD_PID", type := .int, accessFlags := 25, slot := 2, constantValue := 0 }, { name := "BAD_ADDR", type := .int, accessFlags := 25, slot := 3, constantValue := 0 }, { name := "SUSPENDED", type := .int, accessFlags := 25, slot := 4, constantValue := 0 }, { name := "REFUSED", type := .long, accessFlags := 25, slot := 5, constantValue := 0 }, { name := "CFG_PROCS", type := .int, accessFlags := 25, slot := 6, constantValue := 0 }, { name := "CFG_PAGES", type := .int, accessFlags := 25, slot := 7, constantValue := 0 }, { name := "CFG_FRAMES", type := .int, accessFlags := 25, slot := 8, constantValue := 0 }, { name := "CFG_TAU", type := .int, accessFlags := 25, slot := 9, constantValue := 0 }, { name := "procs", type := .int, accessFlags := 2, slot := 0, constantValue := 0 }, { name := "pages", type := .int, accessFlags := 2, slot := 1, constantValue := 0 }, { name := "frames", type := .int, accessFlags := 2, slot := 2, constantValue := 0 }, { name := "tau", type := .int, accessFlags := 2, slot := 3, constantValue := 0 }, { name := "status", type := .int, accessFlags := 2, slot := 4, constantValue := 0 }, { name := "suspensionCount", type := .int, accessFlags := 2, slot := 5, constantValue := 0 }, { name := "readmissionCount", type := .int, accessFlags := 2, slot := 6, constantValue := 0 }, { name := "suspended", type := (.array .boolean), accessFlags := 2, slot := 7, constantValue := 0 }, { name := "vtime", type := (.array .int), accessFlags := 2, slot := 8, constantValue := 0 }, { name := "winLen", type := (.array .int), accessFlags := 2, slot := 9, constantValue := 0 }, { name := "winHead", type := (.array .int), accessFlags := 2, slot := 10, constantValue := 0 }, { name := "wsSize", type := (.array .int), accessFlags := 2, slot := 11, constantValue := 0 }, { name := "touchedCount", type := (.array .int), accessFlags := 2, slot := 12, constantValue := 0 }, { name := "ring", type := (.array .int), accessFlags := 2, slot := 13, constantValue := 0 }, { name := "winCount", type := (.array .int), accessFlags := 2, slot := 14, constantValue := 0 }, { name := "touched", type := (.array .boolean), accessFlags := 2, slot := 15, constantValue := 0 }, { name := "pageFrame", type := (.array .int), accessFlags := 2, slot := 16, constantValue := 0 }, { name := "pageSlot", type := (.array .int), accessFlags := 2, slot := 17, constantValue := 0 }, { name := "pageLastUse", type := (.array .int), accessFlags := 2, slot := 18, constantValue := 0 }, { name := "frameOwner", type := (.array .int), accessFlags := 2, slot := 19, constantValue := 0 }, { name := "frameRef", type := (.array .boolean), accessFlags := 2, slot := 20, constantValue := 0 }, { name := "frameDirty", type := (.array .boolean), accessFlags := 2, slot := 21, constantValue := 0 }, { name := "frameWords", type := (.array .int), accessFlags := 2, slot := 22, constantValue := 0 }, { name := "hand", type := .int, accessFlags := 2, slot := 23, constantValue := 0 }, { name := "slotUsed", type := (.array .boolean), accessFlags := 2, slot := 24, constantValue := 0 }, { name := "swapWords", type := (.array .int), accessFlags := 2, slot := 25, constantValue := 0 }]
  methods := #[k2m0, k2m1, k2m2, k2m3, k2m4, k2m5, k2m6, k2m7, k2m8, k2m9, k2m10, k2m11, k2m12, k2m13, k2m14, k2m15, k2m16, k2m17, k2m18, k2m19, k2m20, k2m21, k2m22, k2m23, k2m24, k2m25, k2m26, k2m27]
  instanceTypes := #[.int, .int, .int, .int, .int, .int, .int, (.array .boolean), (.array .int), (.array .int), (.array .int), (.array .int), (.array .int), (.array .int), (.array .int), (.array .boolean), (.array .int), (.array .int), (.array .int), (.array .int), (.array .boolean), (.array .boolean), (.array .int), .int, (.array .boolean), (.array .int)]
  staticTypes := #[.int, .int, .int, .int, .int, .long, .int, .int, .int, .int]
  resolved := Array.replicate 188 none
  statics := none }

def pool3 : Array CpInfo := pool [(1, u "java/lang/Cloneable"), (0, .class_ 1), (0, u "java/lang/Object"), (0, .class_ 3)] 3

/-- java/lang/Cloneable -/
def k3 : Class := { plain "java/lang/Cloneable" (some 0) with
  accessFlags := 1537
  interfaces := #[]
  cf := some (fileOf pool3 2 #[] #[] 1537 4 #[] #[])
  fields := #[]
  methods := #[]
  instanceTypes := #[]
  staticTypes := #[]
  resolved := Array.replicate 8 none
  statics := none }

def pool4 : Array CpInfo := pool [(1, u "java/io/Serializable"), (0, .class_ 1), (0, u "java/lang/Object"), (0, .class_ 3)] 3

/-- java/io/Serializable -/
def k4 : Class := { plain "java/io/Serializable" (some 0) with
  accessFlags := 1537
  interfaces := #[]
  cf := some (fileOf pool4 2 #[] #[] 1537 4 #[] #[])
  fields := #[]
  methods := #[]
  instanceTypes := #[]
  staticTypes := #[]
  resolved := Array.replicate 8 none
  statics := none }

/-- the primitive boolean -/
def k5 : Class := { plain "boolean" none with kind := .primitive 'Z', accessFlags := 0x411 }
/-- [Z -/
def k6 : Class := { plain "[Z" (some 0) with kind := .array 5 .boolean, interfaces := #[3, 4], accessFlags := 1041 }

/-- the primitive byte -/
def k7 : Class := { plain "byte" none with kind := .primitive 'B', accessFlags := 0x411 }
/-- [B -/
def k8 : Class := { plain "[B" (some 0) with kind := .array 7 .byte, interfaces := #[3, 4], accessFlags := 1041 }

/-- the primitive int -/
def k9 : Class := { plain "int" none with kind := .primitive 'I', accessFlags := 0x411 }
/-- [I -/
def k10 : Class := { plain "[I" (some 0) with kind := .array 9 .int, interfaces := #[3, 4], accessFlags := 1041 }

def heap : Heap := #[]
def classes : Array Class := #[k0, k1, k2, k3, k4, k5, k6, k7, k8, k9, k10]
def interned : List (Array UInt16 × Addr) := []
def slotsUsed : Nat := 0
def theMethod : MethodId := ⟨1, 1⟩
def args0 : Array Value := #[.int 3, .int 5, .int 1, .int 2, .int 7, .int 9]
def aboutOver (below : List Frame) : State where
  vm := { classes := classes, interned := interned.toArray }
  heap := heap
  slotsUsed := slotsUsed
  threads := #[{ frames := .invoking theMethod args0 :: below }]
def below0 : List Frame := [.native { method := ⟨0, 0⟩, args := #[] }]
def about1 : State := aboutOver below0
def p0 : Program := .bare "" "" ""
def e0 : Env := launch0.env 0 0 0
theorem w_frames : about1.frames = Frame.invoking theMethod args0 :: below0 := rfl
set_option maxRecDepth 65536 in
theorem w_args : argsFit about1.vm theMethod args0 = true := by decide +kernel
set_option maxRecDepth 65536 in
theorem w_heap : heapFits about1 = true := by decide +kernel
set_option maxRecDepth 65536 in
theorem w_runnable : about1.curStatus? = some .runnable := by decide +kernel
set_option maxRecDepth 65536 in
theorem w_alone : about1.alone = true := by decide +kernel
set_option maxRecDepth 65536 in
theorem w_named : about1.methodNamed? x = some theMethod := by decide +kernel
set_option maxRecDepth 65536 in
theorem w_hears : about1.hears theMethod below0 = true := by decide +kernel
set_option maxRecDepth 65536 in
theorem w_ripe : about1.ripe theMethod args0 below0 = true := by decide +kernel
theorem w_running : about1.status = .running := rfl
set_option maxRecDepth 65536 in
theorem w_room : about1.hasRoom e0.platform room_1 = true :=
  launch0.hasRoom_least _ room_1 (by decide +kernel) (by decide +kernel) (by decide +kernel) (by decide +kernel) (by decide +kernel) (by decide +kernel)
theorem allAtoms_all (ts : List Jvm.Cond) (a : Array Jvm.Value) (st : Jvm.State) : (allAtoms ts).before a st = ts.all (fun c => c.before a st) := by
  induction ts with
  | nil => rfl
  | cons c t ih =>
    show (Jvm.Cond.and c (allAtoms t)).before a st = _
    rw [Jvm.Cond.before_and, ih, List.all_cons]
def words1 : List Jvm.Cond := Jvm.Cond.code x code maxLocals ret :: tables_1
/-- a 'code' word, met by the world's own term for the bytes: nothing is compared byte by byte -/
theorem code_word {y : MethodName} {bytes : ByteArray} {mx : Nat} {rt : Option FieldType} {a : Array Value} {s : State} {m : MethodId} {meth : Method} {c : Code} (h1 : s.methodNamed? y = some m) (h2 : s.vm.method? m = some meth) (h3 : meth.code = some c) (h4 : c.code = bytes)
    (h5 : (c.maxLocals == mx && c.exceptionTable.isEmpty && decide (c.maxStack ≤ mostOperands) && decide (meth.sig.returnType = rt) && !meth.locks && decide (parseMethodDescriptor y.desc = some meth.sig)) = true) : (Jvm.Cond.code y bytes mx rt).before a s = true := by
  simp only [Bool.and_eq_true, beq_iff_eq, Bool.not_eq_true', decide_eq_true_eq] at h5
  obtain ⟨⟨⟨⟨⟨g1, g2⟩, g3⟩, g4⟩, g5⟩, g6⟩ := h5
  simp [Cond.before, Cond.holds, Cond.value, h1, h2, h3, h4, g1, g2, g3, g4, g5, g6]
def isCode : Jvm.Cond → Bool
  | .code _ _ _ _ => true
  | _ => false
theorem all_split {L : List Jvm.Cond} {P : Jvm.Cond → Bool} (h1 : L.all (fun c => isCode c || P c) = true) (h2 : ∀ c ∈ L.filter isCode, P c = true) : L.all P = true := by
  refine List.all_eq_true.mpr fun c hc => ?_
  have h := List.all_eq_true.mp h1 c hc
  rcases Bool.eq_false_or_eq_true (isCode c) with hi | hi
  · exact h2 c (List.mem_filter.mpr ⟨hc, hi⟩)
  · simpa [hi] using h
set_option maxRecDepth 65536 in
theorem w_c0 : (Jvm.Cond.code x code maxLocals ret).before args0 about1 = true := code_word (m := ⟨1, 1⟩) (meth := k1m1) (c := k1c1) (by decide +kernel) rfl rfl rfl (by decide +kernel)
set_option maxRecDepth 65536 in
theorem w_c1 : (Jvm.Cond.code ({ cls := "WsClockPager", name := "<init>", desc := "(IIII)V" } : Jvm.MethodName) prog_1_method_1_code (6 : Nat) (Option.none : Option Jvm.ClassFile.FieldType)).before args0 about1 = true := code_word (m := ⟨2, 0⟩) (meth := k2m0) (c := k2c0) (by decide +kernel) rfl rfl rfl (by decide +kernel)
set_option maxRecDepth 65536 in
theorem w_c2 : (Jvm.Cond.code ({ cls := "java/lang/Object", name := "<init>", desc := "()V" } : Jvm.MethodName) object_method_1_code (1 : Nat) (Option.none : Option Jvm.ClassFile.FieldType)).before args0 about1 = true := code_word (m := ⟨0, 0⟩) (meth := k0m0) (c := k0c0) (by decide +kernel) rfl rfl rfl (by decide +kernel)
set_option maxRecDepth 65536 in
theorem w_c3 : (Jvm.Cond.code ({ cls := "WsClockPager", name := "clamp", desc := "(III)I" } : Jvm.MethodName) prog_1_method_16_code (4 : Nat) (Option.some Jvm.ClassFile.FieldType.int)).before args0 about1 = true := code_word (m := ⟨2, 12⟩) (meth := k2m12) (c := k2c12) (by decide +kernel) rfl rfl rfl (by decide +kernel)
set_option maxRecDepth 65536 in
theorem w_c4 : (Jvm.Cond.code ({ cls := "WsClockPager", name := "store", desc := "(III)I" } : Jvm.MethodName) prog_1_method_3_code (7 : Nat) (Option.some Jvm.ClassFile.FieldType.int)).before args0 about1 = true := code_word (m := ⟨2, 2⟩) (meth := k2m2) (c := k2c2) (by decide +kernel) rfl rfl rfl (by decide +kernel)
set_option maxRecDepth 65536 in
theorem w_c5 : (Jvm.Cond.code ({ cls := "WsClockPager", name := "check", desc := "(II)I" } : Jvm.MethodName) prog_1_method_18_code (3 : Nat) (Option.some Jvm.ClassFile.FieldType.int)).before args0 about1 = true := code_word (m := ⟨2, 14⟩) (meth := k2m14) (c := k2c14) (by decide +kernel) rfl rfl rfl (by decide +kernel)
set_option maxRecDepth 65536 in
theorem w_c6 : (Jvm.Cond.code ({ cls := "WsClockPager", name := "validPid", desc := "(I)Z" } : Jvm.MethodName) prog_1_method_17_code (2 : Nat) (Option.some Jvm.ClassFile.FieldType.boolean)).before args0 about1 = true := code_word (m := ⟨2, 13⟩) (meth := k2m13) (c := k2c13) (by decide +kernel) rfl rfl rfl (by decide +kernel)
set_option maxRecDepth 65536 in
theorem w_c7 : (Jvm.Cond.code ({ cls := "WsClockPager", name := "ensureResident", desc := "(II)I" } : Jvm.MethodName) prog_1_method_25_code (5 : Nat) (Option.some Jvm.ClassFile.FieldType.int)).before args0 about1 = true := code_word (m := ⟨2, 21⟩) (meth := k2m21) (c := k2c21) (by decide +kernel) rfl rfl rfl (by decide +kernel)
set_option maxRecDepth 65536 in
theorem w_c8 : (Jvm.Cond.code ({ cls := "WsClockPager", name := "findFreeFrame", desc := "()I" } : Jvm.MethodName) prog_1_method_26_code (2 : Nat) (Option.some Jvm.ClassFile.FieldType.int)).before args0 about1 = true := code_word (m := ⟨2, 22⟩) (meth := k2m22) (c := k2c22) (by decide +kernel) rfl rfl rfl (by decide +kernel)
set_option maxRecDepth 65536 in
theorem w_c9 : (Jvm.Cond.code ({ cls := "WsClockPager", name := "fillFrame", desc := "(II)V" } : Jvm.MethodName) prog_1_method_27_code (6 : Nat) (Option.none : Option Jvm.ClassFile.FieldType)).before args0 about1 = true := code_word (m := ⟨2, 23⟩) (meth := k2m23) (c := k2c23) (by decide +kernel) rfl rfl rfl (by decide +kernel)
set_option maxRecDepth 65536 in
theorem w_c10 : (Jvm.Cond.code ({ cls := "WsClockPager", name := "recordReference", desc := "(II)V" } : Jvm.MethodName) prog_1_method_21_code (5 : Nat) (Option.none : Option Jvm.ClassFile.FieldType)).before args0 about1 = true := code_word (m := ⟨2, 17⟩) (meth := k2m17) (c := k2c17) (by decide +kernel) rfl rfl rfl (by decide +kernel)
set_option maxRecDepth 65536 in
theorem w_c11 : (Jvm.Cond.code ({ cls := "WsClockPager", name := "pushWindow", desc := "(II)V" } : Jvm.MethodName) prog_1_method_22_code (6 : Nat) (Option.none : Option Jvm.ClassFile.FieldType)).before args0 about1 = true := code_word (m := ⟨2, 18⟩) (meth := k2m18) (c := k2c18) (by decide +kernel) rfl rfl rfl (by decide +kernel)
set_option maxRecDepth 65536 in
theorem w_c12 : (Jvm.Cond.code ({ cls := "WsClockPager", name := "loadControl", desc := "(I)V" } : Jvm.MethodName) prog_1_method_23_code (5 : Nat) (Option.none : Option Jvm.ClassFile.FieldType)).before args0 about1 = true := code_word (m := ⟨2, 19⟩) (meth := k2m19) (c := k2c19) (by decide +kernel) rfl rfl rfl (by decide +kernel)
set_option maxRecDepth 65536 in
theorem w_c13 : (Jvm.Cond.code ({ cls := "WsClockPager", name := "activeTotal", desc := "()I" } : Jvm.MethodName) prog_1_method_10_code (3 : Nat) (Option.some Jvm.ClassFile.FieldType.int)).before args0 about1 = true := code_word (m := ⟨2, 8⟩) (meth := k2m8) (c := k2c8) (by decide +kernel) rfl rfl rfl (by decide +kernel)
set_option maxRecDepth 65536 in
theorem w_c14 : (Jvm.Cond.code ({ cls := "WsClockPager", name := "chooseVictim", desc := "()I" } : Jvm.MethodName) prog_1_method_28_code (7 : Nat) (Option.some Jvm.ClassFile.FieldType.int)).before args0 about1 = true := code_word (m := ⟨2, 24⟩) (meth := k2m24) (c := k2c24) (by decide +kernel) rfl rfl rfl (by decide +kernel)
set_option maxRecDepth 65536 in
theorem w_c15 : (Jvm.Cond.code ({ cls := "WsClockPager", name := "evictFrame", desc := "(I)V" } : Jvm.MethodName) prog_1_method_29_code (3 : Nat) (Option.none : Option Jvm.ClassFile.FieldType)).before args0 about1 = true := code_word (m := ⟨2, 25⟩) (meth := k2m25) (c := k2c25) (by decide +kernel) rfl rfl rfl (by decide +kernel)
set_option maxRecDepth 65536 in
theorem w_c16 : (Jvm.Cond.code ({ cls := "WsClockPager", name := "writeBack", desc := "(I)V" } : Jvm.MethodName) prog_1_method_30_code (5 : Nat) (Option.none : Option Jvm.ClassFile.FieldType)).before args0 about1 = true := code_word (m := ⟨2, 26⟩) (meth := k2m26) (c := k2c26) (by decide +kernel) rfl rfl rfl (by decide +kernel)
set_option maxRecDepth 65536 in
theorem w_c17 : (Jvm.Cond.code ({ cls := "WsClockPager", name := "allocSlot", desc := "()I" } : Jvm.MethodName) prog_1_method_31_code (3 : Nat) (Option.some Jvm.ClassFile.FieldType.int)).before args0 about1 = true := code_word (m := ⟨2, 27⟩) (meth := k2m27) (c := k2c27) (by decide +kernel) rfl rfl rfl (by decide +kernel)
set_option maxRecDepth 65536 in
theorem w_c18 : (Jvm.Cond.code ({ cls := "WsClockPager", name := "pickProcessToSuspend", desc := "(I)I" } : Jvm.MethodName) prog_1_method_24_code (3 : Nat) (Option.some Jvm.ClassFile.FieldType.int)).before args0 about1 = true := code_word (m := ⟨2, 20⟩) (meth := k2m20) (c := k2c20) (by decide +kernel) rfl rfl rfl (by decide +kernel)
set_option maxRecDepth 65536 in
theorem w_c19 : (Jvm.Cond.code ({ cls := "WsClockPager", name := "isSuspended", desc := "(I)Z" } : Jvm.MethodName) prog_1_method_6_code (2 : Nat) (Option.some Jvm.ClassFile.FieldType.boolean)).before args0 about1 = true := code_word (m := ⟨2, 5⟩) (meth := k2m5) (c := k2c5) (by decide +kernel) rfl rfl rfl (by decide +kernel)
set_option maxRecDepth 65536 in
theorem w_c20 : (Jvm.Cond.code ({ cls := "WsClockPager", name := "suspensions", desc := "()I" } : Jvm.MethodName) prog_1_method_11_code (1 : Nat) (Option.some Jvm.ClassFile.FieldType.int)).before args0 about1 = true := code_word (m := ⟨2, 9⟩) (meth := k2m9) (c := k2c9) (by decide +kernel) rfl rfl rfl (by decide +kernel)
set_option maxRecDepth 65536 in
theorem w_c21 : (Jvm.Cond.code ({ cls := "WsClockPager", name := "load", desc := "(II)J" } : Jvm.MethodName) prog_1_method_2_code (7 : Nat) (Option.some Jvm.ClassFile.FieldType.long)).before args0 about1 = true := code_word (m := ⟨2, 1⟩) (meth := k2m1) (c := k2c1) (by decide +kernel) rfl rfl rfl (by decide +kernel)
set_option maxRecDepth 65536 in
theorem w_c22 : (Jvm.Cond.code ({ cls := "WsClockPager", name := "lastStatus", desc := "()I" } : Jvm.MethodName) prog_1_method_5_code (1 : Nat) (Option.some Jvm.ClassFile.FieldType.int)).before args0 about1 = true := code_word (m := ⟨2, 4⟩) (meth := k2m4) (c := k2c4) (by decide +kernel) rfl rfl rfl (by decide +kernel)
set_option maxRecDepth 65536 in
theorem w_c23 : (Jvm.Cond.code ({ cls := "WsClockPager", name := "release", desc := "(I)I" } : Jvm.MethodName) prog_1_method_4_code (3 : Nat) (Option.some Jvm.ClassFile.FieldType.int)).before args0 about1 = true := code_word (m := ⟨2, 3⟩) (meth := k2m3) (c := k2c3) (by decide +kernel) rfl rfl rfl (by decide +kernel)
set_option maxRecDepth 65536 in
theorem w_c24 : (Jvm.Cond.code ({ cls := "WsClockPager", name := "discardPage", desc := "(I)V" } : Jvm.MethodName) prog_1_method_20_code (4 : Nat) (Option.none : Option Jvm.ClassFile.FieldType)).before args0 about1 = true := code_word (m := ⟨2, 16⟩) (meth := k2m16) (c := k2c16) (by decide +kernel) rfl rfl rfl (by decide +kernel)
set_option maxRecDepth 65536 in
theorem w_c25 : (Jvm.Cond.code ({ cls := "WsClockPager", name := "readmissions", desc := "()I" } : Jvm.MethodName) prog_1_method_12_code (1 : Nat) (Option.some Jvm.ClassFile.FieldType.int)).before args0 about1 = true := code_word (m := ⟨2, 10⟩) (meth := k2m10) (c := k2c10) (by decide +kernel) rfl rfl rfl (by decide +kernel)
set_option maxRecDepth 65536 in
theorem w_c26 : (Jvm.Cond.code ({ cls := "WsClockPager", name := "virtualTime", desc := "(I)I" } : Jvm.MethodName) prog_1_method_7_code (2 : Nat) (Option.some Jvm.ClassFile.FieldType.int)).before args0 about1 = true := code_word (m := ⟨2, 6⟩) (meth := k2m6) (c := k2c6) (by decide +kernel) rfl rfl rfl (by decide +kernel)
set_option maxRecDepth 65536 in
theorem w_c27 : (Jvm.Cond.code ({ cls := "WsClockPager", name := "workingSetSize", desc := "(I)I" } : Jvm.MethodName) prog_1_method_8_code (2 : Nat) (Option.some Jvm.ClassFile.FieldType.int)).before args0 about1 = true := code_word (m := ⟨2, 7⟩) (meth := k2m7) (c := k2c7) (by decide +kernel) rfl rfl rfl (by decide +kernel)
set_option maxRecDepth 65536 in
theorem w_c28 : (Jvm.Cond.code ({ cls := "WsClockPager", name := "memorySum", desc := "(I)I" } : Jvm.MethodName) prog_1_method_14_code (6 : Nat) (Option.some Jvm.ClassFile.FieldType.int)).before args0 about1 = true := code_word (m := ⟨2, 11⟩) (meth := k2m11) (c := k2c11) (by decide +kernel) rfl rfl rfl (by decide +kernel)
set_option maxRecDepth 65536 in
theorem w_c29 : (Jvm.Cond.code ({ cls := "WsClockPager", name := "readWord", desc := "(II)I" } : Jvm.MethodName) prog_1_method_19_code (5 : Nat) (Option.some Jvm.ClassFile.FieldType.int)).before args0 about1 = true := code_word (m := ⟨2, 15⟩) (meth := k2m15) (c := k2c15) (by decide +kernel) rfl rfl rfl (by decide +kernel)
def codes1 : List Jvm.Cond := [Jvm.Cond.code x code maxLocals ret, Jvm.Cond.code ({ cls := "WsClockPager", name := "<init>", desc := "(IIII)V" } : Jvm.MethodName) prog_1_method_1_code (6 : Nat) (Option.none : Option Jvm.ClassFile.FieldType), Jvm.Cond.code ({ cls := "java/lang/Object", name := "<init>", desc := "()V" } : Jvm.MethodName) object_method_1_code (1 : Nat) (Option.none : Option Jvm.ClassFile.FieldType), Jvm.Cond.code ({ cls := "WsClockPager", name := "clamp", desc := "(III)I" } : Jvm.MethodName) prog_1_method_16_code (4 : Nat) (Option.some Jvm.ClassFile.FieldType.int), Jvm.Cond.code ({ cls := "WsClockPager", name := "store", desc := "(III)I" } : Jvm.MethodName) prog_1_method_3_code (7 : Nat) (Option.some Jvm.ClassFile.FieldType.int), Jvm.Cond.code ({ cls := "WsClockPager", name := "check", desc := "(II)I" } : Jvm.MethodName) prog_1_method_18_code (3 : Nat) (Option.some Jvm.ClassFile.FieldType.int), Jvm.Cond.code ({ cls := "WsClockPager", name := "validPid", desc := "(I)Z" } : Jvm.MethodName) prog_1_method_17_code (2 : Nat) (Option.some Jvm.ClassFile.FieldType.boolean), Jvm.Cond.code ({ cls := "WsClockPager", name := "ensureResident", desc := "(II)I" } : Jvm.MethodName) prog_1_method_25_code (5 : Nat) (Option.some Jvm.ClassFile.FieldType.int), Jvm.Cond.code ({ cls := "WsClockPager", name := "findFreeFrame", desc := "()I" } : Jvm.MethodName) prog_1_method_26_code (2 : Nat) (Option.some Jvm.ClassFile.FieldType.int), Jvm.Cond.code ({ cls := "WsClockPager", name := "fillFrame", desc := "(II)V" } : Jvm.MethodName) prog_1_method_27_code (6 : Nat) (Option.none : Option Jvm.ClassFile.FieldType), Jvm.Cond.code ({ cls := "WsClockPager", name := "recordReference", desc := "(II)V" } : Jvm.MethodName) prog_1_method_21_code (5 : Nat) (Option.none : Option Jvm.ClassFile.FieldType), Jvm.Cond.code ({ cls := "WsClockPager", name := "pushWindow", desc := "(II)V" } : Jvm.MethodName) prog_1_method_22_code (6 : Nat) (Option.none : Option Jvm.ClassFile.FieldType), Jvm.Cond.code ({ cls := "WsClockPager", name := "loadControl", desc := "(I)V" } : Jvm.MethodName) prog_1_method_23_code (5 : Nat) (Option.none : Option Jvm.ClassFile.FieldType), Jvm.Cond.code ({ cls := "WsClockPager", name := "activeTotal", desc := "()I" } : Jvm.MethodName) prog_1_method_10_code (3 : Nat) (Option.some Jvm.ClassFile.FieldType.int), Jvm.Cond.code ({ cls := "WsClockPager", name := "chooseVictim", desc := "()I" } : Jvm.MethodName) prog_1_method_28_code (7 : Nat) (Option.some Jvm.ClassFile.FieldType.int), Jvm.Cond.code ({ cls := "WsClockPager", name := "evictFrame", desc := "(I)V" } : Jvm.MethodName) prog_1_method_29_code (3 : Nat) (Option.none : Option Jvm.ClassFile.FieldType), Jvm.Cond.code ({ cls := "WsClockPager", name := "writeBack", desc := "(I)V" } : Jvm.MethodName) prog_1_method_30_code (5 : Nat) (Option.none : Option Jvm.ClassFile.FieldType), Jvm.Cond.code ({ cls := "WsClockPager", name := "allocSlot", desc := "()I" } : Jvm.MethodName) prog_1_method_31_code (3 : Nat) (Option.some Jvm.ClassFile.FieldType.int), Jvm.Cond.code ({ cls := "WsClockPager", name := "pickProcessToSuspend", desc := "(I)I" } : Jvm.MethodName) prog_1_method_24_code (3 : Nat) (Option.some Jvm.ClassFile.FieldType.int), Jvm.Cond.code ({ cls := "WsClockPager", name := "isSuspended", desc := "(I)Z" } : Jvm.MethodName) prog_1_method_6_code (2 : Nat) (Option.some Jvm.ClassFile.FieldType.boolean), Jvm.Cond.code ({ cls := "WsClockPager", name := "suspensions", desc := "()I" } : Jvm.MethodName) prog_1_method_11_code (1 : Nat) (Option.some Jvm.ClassFile.FieldType.int), Jvm.Cond.code ({ cls := "WsClockPager", name := "load", desc := "(II)J" } : Jvm.MethodName) prog_1_method_2_code (7 : Nat) (Option.some Jvm.ClassFile.FieldType.long), Jvm.Cond.code ({ cls := "WsClockPager", name := "lastStatus", desc := "()I" } : Jvm.MethodName) prog_1_method_5_code (1 : Nat) (Option.some Jvm.ClassFile.FieldType.int), Jvm.Cond.code ({ cls := "WsClockPager", name := "release", desc := "(I)I" } : Jvm.MethodName) prog_1_method_4_code (3 : Nat) (Option.some Jvm.ClassFile.FieldType.int), Jvm.Cond.code ({ cls := "WsClockPager", name := "discardPage", desc := "(I)V" } : Jvm.MethodName) prog_1_method_20_code (4 : Nat) (Option.none : Option Jvm.ClassFile.FieldType), Jvm.Cond.code ({ cls := "WsClockPager", name := "readmissions", desc := "()I" } : Jvm.MethodName) prog_1_method_12_code (1 : Nat) (Option.some Jvm.ClassFile.FieldType.int), Jvm.Cond.code ({ cls := "WsClockPager", name := "virtualTime", desc := "(I)I" } : Jvm.MethodName) prog_1_method_7_code (2 : Nat) (Option.some Jvm.ClassFile.FieldType.int), Jvm.Cond.code ({ cls := "WsClockPager", name := "workingSetSize", desc := "(I)I" } : Jvm.MethodName) prog_1_method_8_code (2 : Nat) (Option.some Jvm.ClassFile.FieldType.int), Jvm.Cond.code ({ cls := "WsClockPager", name := "memorySum", desc := "(I)I" } : Jvm.MethodName) prog_1_method_14_code (6 : Nat) (Option.some Jvm.ClassFile.FieldType.int), Jvm.Cond.code ({ cls := "WsClockPager", name := "readWord", desc := "(II)I" } : Jvm.MethodName) prog_1_method_19_code (5 : Nat) (Option.some Jvm.ClassFile.FieldType.int)]
set_option maxRecDepth 65536 in
theorem codes_eq : words1.filter isCode = codes1 := rfl
theorem w_codes : ∀ c ∈ words1.filter isCode, c.before args0 about1 = true := by
  rw [codes_eq]
  intro c hc
  simp only [codes1, List.mem_cons, List.not_mem_nil, or_false] at hc
  rcases hc with rfl | rfl | rfl | rfl | rfl | rfl | rfl | rfl | rfl | rfl | rfl | rfl | rfl | rfl | rfl | rfl | rfl | rfl | rfl | rfl | rfl | rfl | rfl | rfl | rfl | rfl | rfl | rfl | rfl | rfl
  · exact w_c0
  · exact w_c1
  · exact w_c2
  · exact w_c3
  · exact w_c4
  · exact w_c5
  · exact w_c6
  · exact w_c7
  · exact w_c8
  · exact w_c9
  · exact w_c10
  · exact w_c11
  · exact w_c12
  · exact w_c13
  · exact w_c14
  · exact w_c15
  · exact w_c16
  · exact w_c17
  · exact w_c18
  · exact w_c19
  · exact w_c20
  · exact w_c21
  · exact w_c22
  · exact w_c23
  · exact w_c24
  · exact w_c25
  · exact w_c26
  · exact w_c27
  · exact w_c28
  · exact w_c29
set_option maxRecDepth 65536 in
theorem w_t1 : (words1.take 24).all (fun c => isCode c || c.before args0 about1) = true := by decide +kernel
set_option maxRecDepth 65536 in
theorem w_t2 : ((words1.drop 24).take 24).all (fun c => isCode c || c.before args0 about1) = true := by decide +kernel
set_option maxRecDepth 65536 in
theorem w_t3 : (((words1.drop 24).drop 24).take 24).all (fun c => isCode c || c.before args0 about1) = true := by decide +kernel
set_option maxRecDepth 65536 in
theorem w_t4 : ((((words1.drop 24).drop 24).drop 24).take 24).all (fun c => isCode c || c.before args0 about1) = true := by decide +kernel
set_option maxRecDepth 65536 in
theorem w_t5 : (((((words1.drop 24).drop 24).drop 24).drop 24).take 24).all (fun c => isCode c || c.before args0 about1) = true := by decide +kernel
set_option maxRecDepth 65536 in
theorem w_t6 : ((((((words1.drop 24).drop 24).drop 24).drop 24).drop 24).take 24).all (fun c => isCode c || c.before args0 about1) = true := by decide +kernel
set_option maxRecDepth 65536 in
theorem w_t7 : (((((((words1.drop 24).drop 24).drop 24).drop 24).drop 24).drop 24).take 24).all (fun c => isCode c || c.before args0 about1) = true := by decide +kernel
set_option maxRecDepth 65536 in
theorem w_t8 : (((((((words1.drop 24).drop 24).drop 24).drop 24).drop 24).drop 24).drop 24).all (fun c => isCode c || c.before args0 about1) = true := by decide +kernel
theorem w_tables : (allAtoms (Jvm.Cond.code x code maxLocals ret :: tables_1)).before args0 about1 = true := by
  rw [allAtoms_all]
  show words1.all (fun c => c.before args0 about1) = true
  refine all_split ?_ w_codes
  rw [← List.take_append_drop 24 words1, List.all_append, w_t1, ← List.take_append_drop 24 (words1.drop 24), List.all_append, w_t2, ← List.take_append_drop 24 ((words1.drop 24).drop 24), List.all_append, w_t3, ← List.take_append_drop 24 (((words1.drop 24).drop 24).drop 24), List.all_append, w_t4, ← List.take_append_drop 24 ((((words1.drop 24).drop 24).drop 24).drop 24), List.all_append, w_t5, ← List.take_append_drop 24 (((((words1.drop 24).drop 24).drop 24).drop 24).drop 24), List.all_append, w_t6, ← List.take_append_drop 24 ((((((words1.drop 24).drop 24).drop 24).drop 24).drop 24).drop 24), List.all_append, w_t7, w_t8]
  rfl
set_option maxRecDepth 65536 in
theorem w_case : (Jvm.Cond.and given_1 narrow_1).before args0 about1 = true := by decide +kernel
theorem w_applies : (headSpec (Jvm.Cond.code x code maxLocals ret :: tables_1) room_1).applies x e0.platform about1 = true :=
  (Spec.applies_iff w_frames).mpr ⟨w_running, w_runnable, w_alone, w_named, w_hears, w_ripe, w_room, w_tables⟩
theorem atStart : AtStart classFile x code maxLocals ret World_1 tables_1 room_1 Calls_1 rest_1 Pre_1 launch0 p0 e0 about1 theMethod args0 below0 :=
  ⟨lists_1, trivial, launch0.admits_env _ _ _, launch0.least_env, fairChoices_fair.cas, fairChoices_fair.clock, w_frames, w_args, w_heap, w_applies, trivial, trivial, w_case⟩
end start1
theorem witness_1 : WitnessClaimed_1 := ⟨start1.p0, start1.e0, start1.about1, start1.theMethod, start1.args0, start1.below0, start1.atStart⟩
end Jvm.Pilot.@@N@@
