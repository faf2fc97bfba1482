/- Lemmas and contracts that the law DumpWrites leans on (packed by a program of this session out of its texts and the print's words). -/
import Derived.Test.YtcgbgifbajdhpaaGreatDoorZW2
import Derived.Test.YtcgbgifbajdhpaaGreatDoorZW3
import Derived.WalkSpells
import Derived.Sort.LotA
import Derived.Sort.WalkA
import Derived.Deep.DeepMust
import Derived.Shelf.SlSortCmp.KitK
import Derived.Sort.WalkB2
import Derived.Sort.WalkB12
import Derived.Deep.LoopGhost
import Derived.Deep.DeepCutAuto
import Derived.Shelf.SlSortCmp.InsertionK
import Derived.Shelf.Lay
import Derived.Ground.SlsfProg
import Derived.Shelf.SlicesQ.Reverse
import Derived.Shelf.SlGeneric
import Derived.Ground.SlgnProg
set_option linter.unusedVariables false
set_option linter.unusedSimpArgs false
set_option maxHeartbeats 16000000
set_option maxRecDepth 1000000
namespace Go.Proofs.YtcgbgifbajdhpaaGreatDoor.PA
open Go.RowKit Go.Proofs.YtcgbgifbajdhpaaGreatDoor.G Go.Proofs.YtcgbgifbajdhpaaGreatDoorW.PrintWords Go.Proofs.YtcgbgifbajdhpaaGreatDoorW.PrintLast Go.Proofs.YtcgbgifbajdhpaaGreatDoorW.PrintMore
theorem k68_KM {w w':World} {base:Nat} {ok:Nat→Prop} {x:S68} {cs:List Value} (h:k68.K w x cs):k68.M w' base ok x cs:=by
  rw [k68_open h]
  exact k68_mkM _ _ _ x
theorem CloneL.calls (A0:Option Addr) (c0:Nat) (l0:List S68) (n:Nat) (w:World) (hn:l0.length=n) (hr0:Kd.C k68 w A0 l0.length l0) (hc0:l0.length≤c0) (hlen:l0.length≤1000000) :
    Calls Tryz.prog 54 #[.slice A0 n c0] w fun e w' => ∃ v0_:Value,e = .returned (v0_)∧Kd.R k68 68 w' w.heap.size (fun _ => True) v0_ l0∧Below w.heap.size w w':=by
  subst hn
  have HR:=Aside0.mk hr0
  have HL:=Aside0.mk hlen
  have hnil:=fun W n c => Lib.run_eql_slice_nil (P:=Tryz.prog) W 46 68 A0 n c 0 0 Tryz.underlying46
  clear hr0 hc0 hlen
  cases A0 with
  | none =>
    have h0:l0=[]:=by
      rcases Nat.eq_zero_or_pos l0.length with h0 | h0
      · exact List.eq_nil_of_length_eq_zero h0
      · obtain ⟨ad,e,_⟩:=HR.out.2.2 h0
        cases e
    subst h0
    go_enter Tryz.func54,Tryz.ntmps54
    go_wp2
    go_ret
    exact ⟨_,rfl,Kd.R_nil _ _ _ _ _,Below.refl _ _⟩
  | some ad =>
    go_enter Tryz.func54,Tryz.ntmps54
    have hE:=Aside0.mk (R_empty k68 68 w.heap.size w (fun _ => True) (Nat.le_refl _) trivial)
    go_wp2_with ((with_reducible refine gate_dst (N:=7) rfl ?_);refine Kd.R_append_rows k68 (w0:=w) w.heap.size rfl (.tmp 5) (.tmp 6) 46 68 (.agg #[.string ⟨#[]⟩,.string ⟨#[]⟩]) 32 rfl Tryz.underlying46 info68 rfl (by decide) (by omega) _ [] l0 (some ad) l0.length c0 (fun _ => True) (fun _ => False) rfl rfl hE.out (Kd.C_below HR.out (below_alloc (Below.refl _ _) _)) (fun x cs hx => k68_KM hx) (fun _ hk => hk.elim) (fun _ _ => trivial) (below_alloc (Below.refl _ _) _) ?hb ?hl ?_;(case hb => simp);(case hl => (have:=HL.out;simp;omega));intro v1 w1 hR1 hB1 hg_ ho_;rw [List.nil_append] at hR1;have HR1:=Aside0.mk hR1;have HB1:=Aside0.mk hB1;clear hR1 hB1 hg_ ho_)
    go_ret
    exact ⟨_,rfl,HR1.out,HB1.out⟩
theorem cmpJ.calls (A B A':Option Addr) (c e0 n m n' c':Nat) (a b:List S68) (w:World) (hn:a.length=n) (hm:b.length=m) (hr:Kd.C k68 w A n a) (hs:Kd.C k68 w B m b) (hl:n≤1000000) :
    Calls Tryz.prog 70 #[.agg #[.slice A n c,.slice A' n' c'],.slice B m e0] w fun e w' => e = .returned (.int .i64 (cmpL a b))∧Below w.heap.size w w':=by
  have HC:=Aside0.mk (fun (W:World) (hb:Below w.heap.size w W) => cmpL.calls A B c e0 n m a b W hn hm (Kd.C_below hr hb) (Kd.C_below hs hb) hl)
  clear hn hm hr hs
  go_enter Tryz.func70,Tryz.ntmps70
  have HB:=Aside0.mk (below_alloc (Below.refl w.heap.size w) (.cells #[.slice A n c,.slice A' n' c'] 51 (0,0)))
  go_wp2_with (first | (go_at_call 71;(with_reducible refine (HC.out _ HB.out).mono ?_);rintro e w1 ⟨rfl,hb⟩;have HB1:=Aside0.mk (below_step HB.out hb);clear hb))
  go_ret
  exact ⟨rfl,HB1.out⟩
def SrtL (l:List S51):Prop:=l.Pairwise (fun x y => cmpL x.f0 y.f0<0)
def posB (l:List S51) (t:List S68):Nat:=(l.takeWhile (fun x => decide (cmpL x.f0 t<0))).length
theorem posB_le (l:List S51) (t:List S68):posB l t≤l.length:=(List.takeWhile_sublist _).length_le
theorem posB_lt:∀ (l:List S51) (t:List S68) (i:Nat),i<posB l t→cmpL (rd_T51 l (i:Int)).f0 t<0
  | [],t,i,h => by simp [posB] at h
  | x :: l,t,i,h => by
    unfold posB at h
    rw [List.takeWhile_cons] at h
    split at h
    · rename_i hx
      cases i with
      | zero => exact of_decide_eq_true hx
      | succ i => exact posB_lt l t i (by rw [List.length_cons] at h;unfold posB;omega)
    · simp at h
theorem posB_at:∀ (l:List S51) (t:List S68),posB l t<l.length→¬ cmpL (rd_T51 l (posB l t:Int)).f0 t<0
  | [],t,h => by simp [posB] at h
  | x :: l,t,h => by
    unfold posB at h ⊢
    rw [List.takeWhile_cons] at h ⊢
    by_cases hx:cmpL x.f0 t<0
    · rw [if_pos (decide_eq_true hx)] at h ⊢
      have:=posB_at l t (by rw [List.length_cons,List.length_cons] at h;unfold posB;omega)
      unfold posB at this
      rw [List.length_cons]
      exact this
    · rw [if_neg (by simp [hx])]
      exact hx
theorem SrtL_get {l:List S51} (h:SrtL l) {i j:Nat} (hij:i<j) (hj:j<l.length):cmpL (rd_T51 l (i:Int)).f0 (rd_T51 l (j:Int)).f0<0:=by
  have:=List.pairwise_iff_getElem.1 h i j (by omega) hj hij
  simpa [rd_T51,List.getD_eq_getElem?_getD,List.getElem?_eq_getElem (show i<l.length by omega),List.getElem?_eq_getElem hj] using this
theorem posB_eq {l:List S51} {t:List S68} {i:Nat} (hi:i≤l.length) (h1:∀ k,k<i→cmpL (rd_T51 l (k:Int)).f0 t<0) (h2:∀ k,i≤k→k<l.length→¬ cmpL (rd_T51 l (k:Int)).f0 t<0):posB l t=i:=by
  rcases Nat.lt_trichotomy (posB l t) i with h | h | h
  · exact absurd (h1 _ h) (posB_at l t (by omega))
  · exact h
  · have:=posB_le l t
    exact absurd (posB_lt l t i h) (h2 i (Nat.le_refl _) (by omega))
theorem SrtL_mono {l:List S51} (h:SrtL l) (t:List S68) {i j:Nat} (hij:i≤j) (hj:j<l.length) (hc:cmpL (rd_T51 l (j:Int)).f0 t<0):cmpL (rd_T51 l (i:Int)).f0 t<0:=by
  rcases Nat.lt_or_eq_of_le hij with h1 | rfl
  · exact cmpL_trans _ _ _ (SrtL_get h h1 hj) hc
  · exact hc
theorem binSearch.calls (A B:Option Addr) (c e0 n m:Nat) (l:List S51) (b:List S68) (w:World) (hn:l.length=n) (hm:b.length=m) (hr:Kd.C k51 w A n l) (hs:Kd.C k68 w B m b) (hS:SrtL l) (hll:∀ x ∈ l,x.f0.length≤1000000) (hbig:n≤1000000) :
    Calls Tryz.prog 69 #[.slice A n c,.slice B m e0,.func (.func 70) #[] #[]] w fun e w' => e = .returned (.tuple #[.int .i64 (posB l b),.bool (decide (posB l b<n) && decide (cmpL (rd_T51 l (posB l b:Int)).f0 b=0))])∧Below w.heap.size w w':=by
  subst hn hm
  have HR:=Aside0.mk hr
  have HS:=Aside0.mk hs
  have HSR:=Aside0.mk hS
  have HLL:Aside0 (∀ i,i<l.length→(rd_T51 l (i:Int)).f0.length≤1000000):=⟨fun i hi => by
    refine hll _ ?_
    simp [rd_T51,List.getD_eq_getElem?_getD,List.getElem?_eq_getElem hi]⟩
  clear hr hs hS hll
  go_enter Tryz.func69,Tryz.ntmps69
  go_wp2
  go_loopg [9,10] l.length (fun kx s9 s10 wr => ∃ i j:Nat,s9 = .int .i64 i∧s10 = .int .i64 j∧i≤j∧j≤l.length∧j - i≤kx∧Aside0 (Below w.heap.size w wr)∧Aside0 ((∀ k,k<i→cmpL (rd_T51 l (k:Int)).f0 b<0)∧∀ k,j≤k→k<l.length→¬ cmpL (rd_T51 l (k:Int)).f0 b<0))
  case atStart => exact ⟨0,l.length,rfl,rfl,Nat.zero_le _,Nat.le_refl _,by omega,⟨Below.refl _ _⟩,⟨fun k h => by omega,fun k h1 h2 => by omega⟩⟩
  case round =>
    obtain ⟨i,j,rfl,rfl,hij,hjl,hkx,HB,HI⟩:=hrel
    by_cases hlt:i<j
    · obtain ⟨h,hh⟩:∃ h,h=(i+j) / 2:=⟨_,rfl⟩
      have C:((i:Int)+(j:Int)) / 2=(h:Int):=by omega
      have h1:i≤h:=by omega
      have h2:h<j:=by omega
      clear hh
      obtain ⟨ad,A0,c0,A1,c1,rfl,x0,x1,l0,g0,l1,g1⟩:=at_T51 (Kd.C_below HR.out HB.out) (h:Int) (by omega) (by omega)
      rw [Int.toNat_natCast] at x0 x1
      have HC:=Aside0.mk (cmpJ.calls A0 B A1 c0 e0 _ _ (rd_T51 l (h:Int)).f1.length c1 (rd_T51 l (h:Int)).f0 b wr rfl rfl g0 (Kd.C_below HS.out HB.out) (HLL.out h (by omega)))
      have hhl:(h:Int)<(l.length:Int):=by omega
      clear l0 g0 l1 g1
      cases hv:decide (cmpL (rd_T51 l (h:Int)).f0 b<0) with
      | true =>
        have HX:=Aside0.mk (of_decide_eq_true hv)
        generalize (rd_T51 l (h:Int)).f0.length=q0 at x0 HC
        generalize (rd_T51 l (h:Int)).f1.length=q1 at x1 HC
        go_wp2_with (first | (go_at_call 70;(with_reducible refine HC.out.mono ?_);rintro e w1 ⟨rfl,hb⟩;have HB1:=Aside0.mk (below_step HB.out hb);clear hb))
        go_roundg (j - (h+1))
        case measure => omega
        case rel => exact ⟨h+1,j,by go_num,rfl,by omega,hjl,Nat.le_refl _,HB1,⟨fun k hk => SrtL_mono HSR.out b (show k≤h by omega) (by omega) HX.out,HI.out.2⟩⟩
      | false =>
        have HX:=Aside0.mk (of_decide_eq_false hv)
        generalize (rd_T51 l (h:Int)).f0.length=q0 at x0 HC
        generalize (rd_T51 l (h:Int)).f1.length=q1 at x1 HC
        go_wp2_with (first | (go_at_call 70;(with_reducible refine HC.out.mono ?_);rintro e w1 ⟨rfl,hb⟩;have HB1:=Aside0.mk (below_step HB.out hb);clear hb))
        go_roundg (h - i)
        case measure => omega
        case rel => exact ⟨i,h,rfl,rfl,h1,by omega,Nat.le_refl _,HB1,⟨HI.out.1,by
          intro k hk1 hk2
          rcases Int.lt_or_le (cmpL (rd_T51 l (k:Int)).f0 b) 0 with hk3 | hk3
          · have h9:=SrtL_mono HSR.out b hk1 hk2 hk3
            have h8:=HX.out
            omega
          · omega⟩⟩
    · obtain rfl:i=j:=by omega
      have HP:Aside0 (posB l b=i):=⟨posB_eq hjl HI.out.1 HI.out.2⟩
      have hltz:¬ (i:Int)<(i:Int):=by omega
      by_cases hil:i<l.length
      · have hilz:(i:Int)<(l.length:Int):=by omega
        obtain ⟨ad,A0,c0,A1,c1,rfl,x0,x1,l0,g0,l1,g1⟩:=at_T51 (Kd.C_below HR.out HB.out) (i:Int) (by omega) (by omega)
        rw [Int.toNat_natCast] at x0 x1
        have HC:=Aside0.mk (cmpJ.calls A0 B A1 c0 e0 _ _ (rd_T51 l (i:Int)).f1.length c1 (rd_T51 l (i:Int)).f0 b wr rfl rfl g0 (Kd.C_below HS.out HB.out) (HLL.out i (by omega)))
        clear l0 g0 l1 g1
        generalize (rd_T51 l (i:Int)).f1.length=q1 at x1 HC
        generalize hz:cmpL (rd_T51 l (i:Int)).f0 b=z at HC
        have HZ:=Aside0.mk hz
        clear hz
        generalize (rd_T51 l (i:Int)).f0.length=q0 at x0 HC
        go_wp2_with (first | (go_at_call 70;(with_reducible refine HC.out.mono ?_);rintro e w1 ⟨rfl,hb⟩;have HB1:=Aside0.mk (below_step HB.out hb);clear hb))
        refine bodyPost_ret (results_tmp2 rfl _ _ _) rfl ?_
        exact ⟨by rw [HP.out,HZ.out,decide_eq_true hil,Bool.true_and];rfl,HB1.out⟩
      · have hilz:¬ (i:Int)<(l.length:Int):=by omega
        go_wp2
        refine bodyPost_ret (results_tmp2 rfl _ _ _) rfl ?_
        exact ⟨by rw [HP.out,decide_eq_false hil,Bool.false_and];rfl,HB.out⟩
structure Rec where
  x:S51
  lv:Value
  sv:Value
def cellsR (r:Rec):List Value:=[r.lv,r.sv]
abbrev RL (w:World) (base:Nat) (v:Value) (l:List S68):Prop:=k68.R 68 w base (fun _ => True) v l
abbrev RS (w:World) (base:Nat) (v:Value) (l:List S70):Prop:=k70.R 70 w base (fun _ => True) v l
def Lay (w:World) (base:Nat) (v:Value) (rs:List Rec):Prop :=
  RR w base v (rs.map cellsR)∧(∀ r ∈ rs,RL w base r.lv r.x.f0∧RS w base r.sv r.x.f1)∧rs.Pairwise (fun a b => a.sv.ownBlock=none∨a.sv.ownBlock ≠ b.sv.ownBlock)
theorem keep_of {α:Type} {d:Kd α} {e:Nat} (hE:d.E=[]) {w w':World} {base:Nat} {u:Value} {l:List α} (h:d.R e w base (fun _ => True) u l) {row:Option Nat} (hg:w.grownBy w' row) (hne:u.ownBlock=none∨u.ownBlock ≠ row):d.R e w' base (fun _ => True) u l :=
  Kd.R_mono (Kd.R_grown (Kd.R_tight hE h) hg (fun k hk he => by
    rcases hne with hn | hn
    · rw [hn] at hk;cases hk
    · exact hn (by rw [← hk,he]))) (fun _ _ => trivial)
theorem ne_type {α β:Type} {d:Kd α} {d':Kd β} {e e':Nat} (he:e ≠ e') {w:World} {base base':Nat} {ok ok':Nat→Prop} {u v:Value} {l:List α} {l':List β} (h:d.R e w base ok u l) (h':d'.R e' w base' ok' v l'):u.ownBlock=none∨u.ownBlock ≠ v.ownBlock:=by
  cases hu:u.ownBlock with
  | none => exact .inl rfl
  | some k =>
    refine .inr fun hv => ?_
    obtain ⟨c1,h1⟩:=Kd.R_typed h k hu
    obtain ⟨c2,h2⟩:=Kd.R_typed h' k hv.symm
    rw [h1] at h2
    injection h2 with h2
    injection h2 with _ h2
    exact he h2
section
variable {w w' w1:World} {base g cap:Nat} {v:Value} {rs:List Rec}
theorem Lay.below (h:Lay w base v rs) (hb:Below w.heap.size w w'):Lay w' base v rs :=
  ⟨Kd.R_below h.1 hb,fun r hr => ⟨Kd.R_below (h.2.1 r hr).1 hb,Kd.R_below (h.2.1 r hr).2 hb⟩,h.2.2⟩
theorem Lay.nil (w:World) (base:Nat):Lay w base (.slice none 0 0) []:=⟨Kd.R_nil _ _ _ _ _,(fun r hr => by cases hr),List.Pairwise.nil⟩
theorem Lay.reads (h:Lay w base v rs):∃ A c,v = .slice A rs.length c∧rs.length≤c∧k51.C w A rs.length (rs.map (·.x)):=by
  obtain ⟨A,c,hv,hc,hC⟩:=Kd.R_reads h.1
  rw [List.length_map] at hv hc hC
  refine ⟨A,c,hv,hc,by rw [List.length_map],hC.2.1,fun hn => ?_⟩
  obtain ⟨ad,hA,hj⟩:=hC.2.2 hn
  refine ⟨ad,hA,fun j p hp => ?_⟩
  rw [List.getElem?_map] at hp
  obtain ⟨r,hr,rfl⟩:=Option.map_eq_some_iff.1 hp
  obtain ⟨cs,h1,h2,h3⟩:=hj j (cellsR r) (by rw [List.getElem?_map,hr];rfl)
  obtain ⟨k1,k2⟩:=h.2.1 r (List.mem_of_getElem? hr)
  obtain ⟨A0,c0,e0,l0,g0⟩:=Kd.R_reads k1
  obtain ⟨A1,c1,e1,l1,g1⟩:=Kd.R_reads k2
  refine ⟨cs,h1,?_,h3⟩
  rw [h2.1]
  unfold cellsR
  rw [e0,e1]
  exact k51_mk w r.x l0 g0 l1 g1
theorem Lay.moved (h:Lay w base v rs) (hg:w.grownBy w' v.ownBlock):∀ r ∈ rs,RL w' base r.lv r.x.f0∧RS w' base r.sv r.x.f1:=fun r hr =>
  ⟨keep_of rfl (h.2.1 r hr).1 hg (ne_type (by decide) (h.2.1 r hr).1 h.1),keep_of rfl (h.2.1 r hr).2 hg (ne_type (by decide) (h.2.1 r hr).2 h.1)⟩
theorem Lay.insert (h:Lay w base v rs) (hg:w.grownBy w' v.ownBlock) {v':Value} (i:Nat) (r:Rec) (hR:RR w' base v' ((rs.map cellsR).take i ++ [cellsR r] ++ (rs.map cellsR).drop i)) (h1:RL w' base r.lv r.x.f0) (h2:RS w' base r.sv r.x.f1) (hn:r.sv.ownBlock=none):Lay w' base v' (rs.take i ++ [r] ++ rs.drop i):=by
  refine ⟨by rw [List.map_append,List.map_append,List.map_take,List.map_drop];exact hR,fun x hx => ?_,?_⟩
  · rcases List.mem_append.1 hx with hx | hx
    · rcases List.mem_append.1 hx with hx | hx
      · exact h.moved hg x (List.mem_of_mem_take hx)
      · rw [List.mem_singleton] at hx
        subst hx
        exact ⟨h1,h2⟩
    · exact h.moved hg x (List.mem_of_mem_drop hx)
  · have hp:=h.2.2
    rw [← List.take_append_drop i rs] at hp
    obtain ⟨p1,p2,p3⟩:=List.pairwise_append.1 hp
    refine List.pairwise_append.2 ⟨List.pairwise_append.2 ⟨p1,List.pairwise_singleton _ _,fun a ha b hb => ?_⟩,p2,fun a ha b hb => ?_⟩
    · rw [List.mem_singleton] at hb
      subst hb
      rw [hn]
      cases ho:a.sv.ownBlock with
      | none => exact .inl rfl
      | some k => exact .inr (by simp)
    · rcases List.mem_append.1 ha with ha | ha
      · exact p3 a ha b hb
      · rw [List.mem_singleton] at ha
        subst ha
        exact .inl hn
theorem rr_set {rows:List (List Value)} {n:Nat} (h:RR w base (.slice (some ⟨g,0,none⟩) n cap) rows) (i:Nat) (hi:i<rows.length) (a u u':Value) (hr:rows[i]? = some [a,u]) (h1:u'.oneCell'=true) :
    RR (w.setCell ⟨g,i*2+1,none⟩ u') base (.slice (some ⟨g,0,none⟩) n cap) (rows.set i [a,u']):=by
  obtain ⟨ho,ht⟩:=rr_own h
  obtain ⟨hl,ho⟩:=ho
  have ht2:Two (rows.set i [a,u']):=fun r hr2 => by
    rcases List.mem_or_eq_of_mem_set hr2 with hr2 | rfl
    · exact ht r hr2
    · refine ⟨rfl,fun x hx => ?_⟩
      simp only [List.mem_cons,List.not_mem_nil,or_false] at hx
      rcases hx with rfl | rfl
      · exact (ht _ (List.mem_of_getElem? hr)).2 _ (List.mem_cons_self ..)
      · exact h1
  have hfl:(rows.set i [a,u']).flatten=rows.flatten.set (i*2+1) u':=by
    have e1:=(two_take rows i ht).1
    have e2:=(two_take rows (i+1) ht).2
    have hrow:rows=rows.take i ++ [a,u] :: rows.drop (i+1):=by
      rw [← List.getElem_of_getElem? hr |>.2,List.getElem_cons_drop,List.take_append_drop]
    have hlt:(rows.take i).flatten.length=i*2:=by
      rw [← e1,List.length_take,hl];omega
    rw [List.set_eq_take_append_cons_drop,if_pos hi,List.flatten_append,List.flatten_cons]
    conv => rhs;rw [hrow,List.flatten_append,List.flatten_cons]
    rw [List.set_append_right _ _ (by omega),hlt,show i*2+1 - i*2=1 from by omega]
    rfl
  rcases ho with ⟨hno,_⟩ | ⟨g',cap',cur,he,hb,hh,h2,h3,h4,h5⟩
  · cases hno
  · have he':g=g'∧rows.length=n∧cap=cap':=by
      have:=he
      simp only [Value.slice.injEq,Option.some.injEq,Addr.mk.injEq,and_true] at this
      exact ⟨this.1,this.2.1.symm,this.2.2⟩
    obtain ⟨rfl,hnn,rfl⟩:=he'
    refine own_rr (n:=rows.length) ?_ (List.length_set) ht2
    rw [hfl,hnn]
    refine ⟨by rw [List.length_set,hl,hnn],.inr ⟨g,cap,cur.setIfInBounds (i*2+1) u',rfl,hb,blk_set hh _ _,by omega,h3,by rw [Array.size_setIfInBounds];exact h4,?_⟩⟩
    rw [Array.toList_setIfInBounds,List.take_set,← hnn,h5]
theorem Lay.samples {n:Nat} (h:Lay w base (.slice (some ⟨g,0,none⟩) n cap) rs) (i:Nat) (r:Rec) (hr:rs[i]? = some r) (hg:w.grownBy w1 r.sv.ownBlock) {v1:Value} {ss:List S70} (h1:RS w1 base v1 ss) (hat:v1.ownBlock=r.sv.ownBlock∨∃ b,v1.ownBlock=some b∧w.heap.size≤b) :
    Lay (w1.setCell ⟨g,i*2+1,none⟩ v1) base (.slice (some ⟨g,0,none⟩) n cap) (rs.set i ⟨⟨r.x.f0,ss⟩,r.lv,v1⟩):=by
  obtain ⟨hil,hri⟩:=List.getElem?_eq_some_iff.1 hr
  have hR1:RR w1 base (.slice (some ⟨g,0,none⟩) n cap) (rs.map cellsR):=keep_of rfl h.1 hg (ne_type (by decide) h.1 (h.2.1 r (List.mem_of_getElem? hr)).2)
  have hm:∀ x ∈ rs,RL w1 base x.lv x.x.f0:=fun x hx => keep_of rfl (h.2.1 x hx).1 hg (ne_type (by decide) (h.2.1 x hx).1 (h.2.1 r (List.mem_of_getElem? hr)).2)
  have hap:∀ j x,rs[j]? = some x→j ≠ i→x.sv.ownBlock=none∨x.sv.ownBlock ≠ r.sv.ownBlock:=fun j x hx hj => by
    obtain ⟨hjl,hjx⟩:=List.getElem?_eq_some_iff.1 hx
    rcases Nat.lt_or_ge j i with hlt | hge
    · have:=List.pairwise_iff_getElem.1 h.2.2 j i hjl hil hlt
      rw [hjx,hri] at this
      exact this
    · have:=List.pairwise_iff_getElem.1 h.2.2 i j hil hjl (by omega)
      rw [hjx,hri] at this
      rcases this with h2 | h2
      · cases ho:x.sv.ownBlock with
        | none => exact .inl rfl
        | some k => exact .inr (by rw [h2];simp)
      · exact .inr (Ne.symm h2)
  have hm2:∀ j x,rs[j]? = some x→j ≠ i→RS w1 base x.sv x.x.f1:=fun j x hx hj => keep_of rfl (h.2.1 x (List.mem_of_getElem? hx)).2 hg (hap j x hx hj)
  have hset:∀ {α:Type} {d:Kd α} {e:Nat} {u:Value} {l:List α},d.E=[] → e ≠ 51→d.R e w1 base (fun _ => True) u l→d.R e (w1.setCell ⟨g,i*2+1,none⟩ v1) base (fun _ => True) u l:=fun hE he hx =>
    Kd.R_mono (Kd.R_step (Kd.R_tight hE hx) (fun k hk hlt => by
      have hne:=ne_type he hx hR1
      exact Below.heap_setCell w1 ⟨g,i*2+1,none⟩ v1 k (fun ek => by
        rcases hne with h2 | h2
        · rw [h2] at hk;cases hk
        · exact h2 (by rw [← hk,ek];rfl)))) (fun _ _ => trivial)
  refine ⟨?_,fun x hx => ?_,?_⟩
  · have:=rr_set hR1 i (by rw [List.length_map];exact hil) r.lv r.sv v1 (by rw [List.getElem?_map,hr];rfl) (by obtain ⟨A,c,rfl⟩:=Kd.R_slice h1;rfl)
    rw [List.map_set]
    exact this
  · obtain ⟨j,hj⟩:=List.getElem?_of_mem hx
    rw [List.getElem?_set] at hj
    by_cases hji:i=j
    · rw [if_pos hji,if_pos hil] at hj
      injection hj with hj
      subst hj
      exact ⟨hset rfl (by decide) (hm r (List.mem_of_getElem? hr)),hset rfl (by decide) h1⟩
    · rw [if_neg hji] at hj
      exact ⟨hset rfl (by decide) (hm x (List.mem_of_getElem? hj)),hset rfl (by decide) (hm2 j x hj (fun e => hji e.symm))⟩
  · have hnew:∀ j x,rs[j]? = some x→j ≠ i→x.sv.ownBlock=none∨x.sv.ownBlock ≠ v1.ownBlock:=fun j x hx hj => by
      rcases hat with h2 | ⟨b,h2,hb⟩
      · rw [h2];exact hap j x hx hj
      · cases ho:x.sv.ownBlock with
        | none => exact .inl rfl
        | some k =>
          refine .inr (fun e => ?_)
          rw [h2] at e
          injection e with e
          have:=Kd.R_lt (h.2.1 x (List.mem_of_getElem? hx)).2 k ho
          omega
    rw [List.pairwise_iff_getElem]
    intro a b ha hb hab
    rw [List.length_set] at ha hb
    rw [List.getElem_set,List.getElem_set]
    by_cases ea:i=a
    · subst ea
      rw [if_pos rfl,if_neg (by omega)]
      rcases hnew b _ (List.getElem?_eq_getElem hb) (by omega) with h2 | h2
      · show v1.ownBlock=none∨_
        cases ho:v1.ownBlock with
        | none => exact .inl rfl
        | some k => exact .inr (by rw [h2];simp)
      · exact .inr (Ne.symm h2)
    · rw [if_neg ea]
      by_cases eb:i=b
      · subst eb
        rw [if_pos rfl]
        exact hnew a _ (List.getElem?_eq_getElem ha) (by omega)
      · rw [if_neg eb]
        exact List.pairwise_iff_getElem.1 h.2.2 a b ha hb hab
theorem Lay.base_row (h:Lay w base v rs):∀ k,v.ownBlock=some k→base≤k:=Kd.R_base h.1
theorem rr_cell {rows:List (List Value)} {n:Nat} (h:RR w base (.slice (some ⟨g,0,none⟩) n cap) rows) (i:Nat) (a u:Value) (hr:rows[i]? = some [a,u]) :
    w.cell? ⟨g,i*2,none⟩=some a∧w.cell? ⟨g,i*2+1,none⟩=some u∧w.frozen? ⟨g,i*2,none⟩=false∧w.frozen? ⟨g,i*2+1,none⟩=false:=by
  have hil:i<rows.length:=(List.getElem?_eq_some_iff.1 hr).1
  obtain ⟨hn,_,hC⟩:=Kd.R_reads' h
  obtain ⟨ad,hA,hj⟩:=hC.2.2 (by omega)
  injection hA with hA
  subst hA
  obtain ⟨cs,h1,h2,h3⟩:=hj i _ hr
  have h2':cs=[a,u]:=h2.1
  subst h2'
  obtain ⟨g',cap',he,_,_,_,cur,hh,_⟩:=rr_form h (by omega)
  have hg:g=g':=by
    simp only [Value.slice.injEq,Option.some.injEq,Addr.mk.injEq,and_true] at he
    exact he.1
  subst hg
  have k0:=h3 0 a rfl
  have k1:=h3 1 u rfl
  rw [add_plain] at k0 k1
  exact ⟨k0,k1,blk_frozen hh _,blk_frozen hh _⟩
theorem lay_cell {n:Nat} (h:Lay w base (.slice (some ⟨g,0,none⟩) n cap) rs) (i:Nat) (r:Rec) (hr:rs[i]? = some r) :
    w.cell? ⟨g,i*2,none⟩=some r.lv∧w.cell? ⟨g,i*2+1,none⟩=some r.sv∧w.frozen? ⟨g,i*2,none⟩=false∧w.frozen? ⟨g,i*2+1,none⟩=false :=
  rr_cell h.1 i r.lv r.sv (by rw [List.getElem?_map,hr];rfl)
theorem lay_form (h:Lay w base v rs) (h0:0<rs.length):∃ g cap,v = .slice (some ⟨g,0,none⟩) rs.length cap∧base≤g:=by
  obtain ⟨g,cap,he,_,_,hb,_⟩:=rr_form h.1 (by rw [List.length_map];exact h0)
  rw [List.length_map] at he
  exact ⟨g,cap,he,hb⟩
end
end Go.Proofs.YtcgbgifbajdhpaaGreatDoor.PA
namespace Go.Proofs.YtcgbgifbajdhpaaGreatDoor.PA
open Go.Sort
section
variable {α:Type} [Inhabited α]
def swR (d:Array α) (a b:Nat):Nat→Array α
  | 0 => d
  | m+1 => swp (swR d a b m) (a+m) (b+m)
theorem swR_size (d:Array α) (a b:Nat):∀ m,(swR d a b m).size=d.size
  | 0 => rfl
  | m+1 => by rw [swR,size_swp,swR_size d a b m]
def sgm (a b n t:Nat):Nat:=if a≤t∧t<a+n then t+(b - a) else if b≤t∧t<b+n then t - (b - a) else t
theorem swR_get (d:Array α) (a b:Nat):∀ m,a+m≤b→b+m≤d.size→∀ t,(swR d a b m)[t]! = d[sgm a b m t]!
  | 0,_,_,t => by
    rw [swR,show sgm a b 0 t=t from by unfold sgm;rw [if_neg (by omega),if_neg (by omega)]]
  | m + 1, h1, h2, t => by
    rw [swR,swp_get _ (by rw [swR_size];omega) (by rw [swR_size];omega),swR_get d a b m (by omega) (by omega),swR_get d a b m (by omega) (by omega),swR_get d a b m (by omega) (by omega)]
    by_cases e1:t=b+m
    · rw [if_pos e1,show sgm a b m (a+m)=sgm a b (m+1) t from by unfold sgm;(repeat' split) <;> omega]
    · rw [if_neg e1]
      by_cases e2:t=a+m
      · rw [if_pos e2,show sgm a b m (b+m)=sgm a b (m+1) t from by unfold sgm;(repeat' split) <;> omega]
      · rw [if_neg e2,show sgm a b m t=sgm a b (m+1) t from by unfold sgm;(repeat' split) <;> omega]
def rho (a m b t:Nat):Nat:=if t<a then t else if t<a+(b - m) then m+(t - a) else if t<b then t - (b - m) else t
theorem rho_left (i j m t:Nat) (h:j<i) (hi:i≤m):sgm (m - i) m j (rho (m - (i - j)) m (m+j) t)=rho (m - i) m (m+j) t:=by
  unfold rho sgm
  (repeat' split) <;> omega
theorem rho_right (i j m t:Nat) (h:i<j) (hi:i≤m):sgm (m - i) (m+j - i) i (rho (m - i) m (m+(j - i)) t)=rho (m - i) m (m+j) t:=by
  unfold rho sgm
  (repeat' split) <;> omega
theorem rho_same (i m t:Nat) (hi:i≤m):sgm (m - i) m i t=rho (m - i) m (m+i) t:=by
  unfold rho sgm
  (repeat' split) <;> omega
theorem rho_none (a m b t:Nat) (h:a≤m) (h2:m≤b) (h3:a=m∨m=b):rho a m b t=t:=by
  unfold rho
  (repeat' split) <;> omega
def segA (d:Array α) (a b:Nat):List α:=(List.range' a (b - a)).map (d[·]!)
theorem seg_len (d:Array α) (a b:Nat):(segA d a b).length=b - a:=by simp [segA]
theorem seg_all (d:Array α):segA d 0 d.size=d.toList:=by
  apply List.ext_getElem
  · simp [segA]
  · intro i h1 h2
    simp [segA] at h1 ⊢
    rw [getElem!_pos d i (by simpa using h2)]
theorem seg_cat (d:Array α) {a b c:Nat} (h1:a≤b) (h2:b≤c):segA d a c=segA d a b++segA d b c:=by
  unfold segA
  rw [← List.map_append]
  congr 1
  have:=List.range'_append_1 (s:=a) (m:=b - a) (n:=c - b)
  rw [show a+(b - a)=b from by omega] at this
  rw [this,show b - a+(c - b)=c - a from by omega]
theorem seg_congr {d d':Array α} {a b:Nat} (h:∀ t,a≤t→t<b→d'[t]! = d[t]!):segA d' a b=segA d a b:=by
  unfold segA
  apply List.map_congr_left
  intro t ht
  rw [List.mem_range'_1] at ht
  exact h t ht.1 (by omega)
theorem seg_shift {d d':Array α} {a b n:Nat} (h:∀ t,t<n→d'[a+t]! = d[b+t]!):segA d' a (a+n)=segA d b (b+n):=by
  apply List.ext_getElem
  · simp [segA]
  · intro i h1 h2
    simp [segA] at h1 ⊢
    exact h i h1
theorem mem_seg {d:Array α} {a b:Nat} {x:α}:x ∈ segA d a b↔∃ t,a≤t∧t<b∧d[t]! = x:=by
  unfold segA
  rw [List.mem_map]
  constructor
  · rintro ⟨t,h1,h2⟩
    rw [List.mem_range'_1] at h1
    exact ⟨t,h1.1,by omega,h2⟩
  · rintro ⟨t,h1,h2,h3⟩
    exact ⟨t,by rw [List.mem_range'_1];omega,h3⟩
variable (key:α→Int)
def MG (d:Array α) (a b:Nat) (d':Array α):Prop:=d'.size=d.size∧(∀ t,t<a∨b≤t→d'[t]! = d[t]!)∧∀ v:Int,(segA d' a b).filter (fun x => decide (key x=v))=(segA d a b).filter (fun x => decide (key x=v))
def Srt (d:Array α) (a b:Nat):Prop:=∀ i j,a≤i→i<j→j<b→key d[i]! ≤ key d[j]!
variable {key}
theorem MG.refl (d:Array α) (a b:Nat):MG key d a b d:=⟨rfl,fun _ _ => rfl,fun _ => rfl⟩
theorem MG.trans {d d' d'':Array α} {a b:Nat} (h:MG key d a b d') (k:MG key d' a b d''):MG key d a b d'' :=
  ⟨k.1.trans h.1,fun t ht => (k.2.1 t ht).trans (h.2.1 t ht),fun v => (k.2.2 v).trans (h.2.2 v)⟩
theorem MG.wide {d d':Array α} {a b a' b':Nat} (h:MG key d a b d') (h1:a'≤a) (h2:b≤b') (hab:a≤b):MG key d a' b' d':=by
  refine ⟨h.1,fun t ht => h.2.1 t (by omega),fun v => ?_⟩
  rw [seg_cat d' h1 (by omega:a≤b'),seg_cat d' hab h2,seg_cat d h1 (by omega:a≤b'),seg_cat d hab h2]
  simp only [List.filter_append]
  rw [h.2.2 v,seg_congr (d':=d') (d:=d) (fun t h3 h4 => h.2.1 t (.inl h4)),seg_congr (d':=d') (d:=d) (fun t h3 h4 => h.2.1 t (.inr h3))]
theorem MG.from_ {d d':Array α} {a b:Nat} (h:MG key d a b d') (t:Nat) (h1:a≤t) (h2:t<b):∃ s,a≤s∧s<b∧d[s]! = d'[t]! := by
  have hm:d'[t]! ∈ (segA d' a b).filter (fun x => decide (key x=key d'[t]!)):=List.mem_filter.2 ⟨mem_seg.2 ⟨t,h1,h2,rfl⟩,by simp⟩
  rw [h.2.2] at hm
  exact mem_seg.1 (List.mem_filter.1 hm).1
theorem MG.rot {d d':Array α} {a m b:Nat} (hs:d'.size=d.size) (h1:a≤m) (h2:m≤b) (hr:∀ t,d'[t]! = d[rho a m b t]!) (hk:∀ i j,a≤i→i<m→m≤j→j<b→key d[j]! < key d[i]!):MG key d a b d':=by
  refine ⟨hs,fun t ht => by rw [hr,show rho a m b t=t from by unfold rho;(repeat' split) <;> omega],fun v => ?_⟩
  have e1:segA d' a (a+(b - m))=segA d m (m+(b - m)):=seg_shift (fun t ht => by rw [hr,show rho a m b (a+t)=m+t from by unfold rho;(repeat' split) <;> omega])
  have e2:segA d' (a+(b - m)) (a+(b - m)+(m - a))=segA d a (a+(m - a)):=seg_shift (fun t ht => by rw [hr,show rho a m b (a+(b - m)+t)=a+t from by unfold rho;(repeat' split) <;> omega])
  rw [show m+(b - m)=b from by omega] at e1
  rw [show a+(b - m)+(m - a)=b from by omega,show a+(m - a)=m from by omega] at e2
  rw [seg_cat d' (by omega:a≤a+(b - m)) (by omega:a+(b - m)≤b),e1,e2,seg_cat d h1 h2,List.filter_append,List.filter_append]
  by_cases hA:∃ x ∈ segA d a m,key x=v
  · obtain ⟨x,hx,hv⟩:=hA
    obtain ⟨i,i1,i2,rfl⟩:=mem_seg.1 hx
    have:(segA d m b).filter (fun x => decide (key x=v))=[]:=by
      rw [List.filter_eq_nil_iff]
      intro y hy
      obtain ⟨j,j1,j2,rfl⟩:=mem_seg.1 hy
      have:=hk i j i1 i2 j1 j2
      simp
      omega
    rw [this]
    simp
  · have:(segA d a m).filter (fun x => decide (key x=v))=[]:=by
      rw [List.filter_eq_nil_iff]
      intro y hy
      simp
      exact fun e => hA ⟨y,hy,e⟩
    rw [this]
    simp
theorem MG.nb {d:Array α} {i:Nat} (hi:i+1<d.size) (hk:key d[i+1]! < key d[i]!):MG key d i (i+2) (swp d i (i+1)):=by
  refine MG.rot (m:=i+1) (size_swp _ _ _) (by omega) (by omega) (fun t => ?_) (fun p q h1 h2 h3 h4 => ?_)
  · rw [swp_get d (by omega) hi]
    by_cases e1:t=i+1
    · rw [if_pos e1,show rho i (i+1) (i+2) t=i from by unfold rho;(repeat' split) <;> omega]
    · rw [if_neg e1]
      by_cases e2:t=i
      · rw [if_pos e2,show rho i (i+1) (i+2) t=i+1 from by unfold rho;(repeat' split) <;> omega]
      · rw [if_neg e2,show rho i (i+1) (i+2) t=t from by unfold rho;(repeat' split) <;> omega]
  · obtain rfl:p=i:=by omega
    obtain rfl:q=p+1:=by omega
    exact hk
theorem swp_comm' (d:Array α) {i j:Nat} (hi:i<d.size) (hj:j<d.size):swp d i j=swp d j i:=by
  apply Array.ext
  · simp [size_swp]
  · intro t h1 h2
    have:=swp_get d hi hj t
    have h:=swp_get d hj hi t
    rw [getElem!_pos _ t h1] at this
    rw [getElem!_pos _ t h2] at h
    rw [this,h]
    by_cases e1:t=j <;> by_cases e2:t=i <;> simp_all
variable {lt:α→α→Bool}
theorem insInner_MG (hlt:∀ x y,lt x y=true→key x<key y) (a:Nat):∀ j (d:Array α),a≤j→j<d.size→MG key d a (j+1) (insInner lt a j d)
  | 0,d,_,_ => by rw [insInner];exact MG.refl _ _ _
  | j + 1, d, h, hj => by
    rw [insInner]
    split
    · rename_i hc
      simp only [Bool.and_eq_true,decide_eq_true_eq] at hc
      have h1:MG key d j (j+2) (swp d (j+1) j):=by
        rw [swp_comm' d hj (by omega)]
        exact MG.nb hj (hlt _ _ hc.2)
      have h2:=insInner_MG hlt a j (swp d (j+1) j) (by omega) (by rw [size_swp];omega)
      exact (h1.wide (by omega) (by omega) (by omega)).trans (h2.wide (Nat.le_refl _) (by omega) (by omega))
    · exact MG.refl _ _ _
theorem insInner_size (a:Nat):∀ j (d:Array α),(insInner lt a j d).size=d.size
  | 0,d => by rw [insInner]
  | j+1,d => by
    rw [insInner]
    split
    · rw [insInner_size a j,size_swp]
    · rfl
theorem insOuter_MG (hlt:∀ x y,lt x y=true→key x<key y) (a b:Nat):∀ n i (d:Array α),b - i=n→a≤i→i≤b→b≤d.size→MG key d a b (insOuter lt a b i d)
  | 0,i,d,hn,h1,h2,h3 => by
    rw [insOuter,if_neg (by omega)]
    exact MG.refl _ _ _
  | n+1,i,d,hn,h1,h2,h3 => by
    rw [insOuter,if_pos (by omega)]
    have k1:=insInner_MG hlt a i d h1 (by omega)
    have k2:=insOuter_MG hlt a b n (i+1) (insInner lt a i d) (by omega) (by omega) (by omega) (by rw [insInner_size];omega)
    exact (k1.wide (Nat.le_refl _) (by omega) (by omega)).trans k2
theorem ins_MG (hlt:∀ x y,lt x y=true→key x<key y) (d:Array α) (a b:Nat) (hab:a≤b) (hb:b≤d.size):MG key d a b (insertionSort lt d a b):=by
  unfold insertionSort
  by_cases h:a+1≤b
  · exact insOuter_MG hlt a b _ (a+1) d rfl (by omega) h hb
  · rw [insOuter,if_neg (by omega)]
    exact MG.refl _ _ _
theorem ins_Srt (hlt:∀ x y,lt x y=true↔key x<key y) (d:Array α) (a b:Nat) (hab:a≤b) (hb:b≤d.size):Srt key (insertionSort lt d a b) a b:=by
  have hf:∀ x y,lt x y=false↔key y≤key x:=fun x y => by
    rw [← Bool.not_eq_true,hlt];omega
  have hS:SWO lt:=⟨fun x => by rw [hf];omega,fun x y z h1 h2 => by rw [hlt] at *;omega,fun x y z h1 h2 => by rw [hf] at *;omega⟩
  have:=(insertionSort_holds hS d a b hab hb).2
  intro i j h1 h2 h3
  exact (hf _ _).1 (this i j h1 h2 h3)
theorem merge_done {d d1 d2 d3:Array α} {a s m e b q:Nat} (hb:b≤d.size) (h1:a≤s) (h2:s≤m) (h3:m≤e) (h4:e≤b) (hq:q=s+(e - m)) (hA:Srt key d a m) (hB:Srt key d m b) (hs1:d1.size=d.size) (hr:∀ t,d1[t]! = d[rho s m e t]!)
    (hL:a<s→e<b→key d[s - 1]! ≤ key d[e]!) (hR:s<m→m<e→key d[e - 1]! < key d[s]!) (k2:MG key d1 a q d2) (s2:Srt key d2 a q) (k3:MG key d2 q b d3) (s3:Srt key d3 q b):MG key d a b d3∧Srt key d3 a b:=by
  have hAA:∀ i j,a≤i→i≤j→j<m→key d[i]! ≤ key d[j]! := fun i j x y z => by
    rcases Nat.lt_or_eq_of_le y with y | rfl
    · exact hA i j x y z
    · exact Int.le_refl _
  have hBB:∀ i j,m≤i→i≤j→j<b→key d[i]! ≤ key d[j]! := fun i j x y z => by
    rcases Nat.lt_or_eq_of_le y with y | rfl
    · exact hB i j x y z
    · exact Int.le_refl _
  have k1:MG key d s e d1:=MG.rot hs1 h2 h3 hr (fun i j x1 x2 x3 x4 => by
    have:=hR (by omega) (by omega)
    have y1:=hAA s i h1 x1 x2
    have y2:=hBB j (e - 1) x3 (by omega) (by omega)
    omega)
  refine ⟨(k1.wide h1 h4 (by omega)).trans ((k2.wide (Nat.le_refl _) (by omega) (by omega)).trans (k3.wide (by omega) (Nat.le_refl _) (by omega))),fun i j x1 x2 x3 => ?_⟩
  have cross:∀ p r,a≤p→p<q→q≤r→r<b→key d1[p]! ≤ key d1[r]! := fun p r y1 y2 y3 y4 => by
    rw [hr p,hr r]
    by_cases c1:p<s
    · rw [show rho s m e p=p from by unfold rho;rw [if_pos c1]]
      by_cases c2:r<e
      · rw [show rho s m e r=r - (e - m) from by unfold rho;rw [if_neg (by omega),if_neg (by omega),if_pos c2]]
        exact hAA _ _ y1 (by omega) (by omega)
      · rw [show rho s m e r=r from by unfold rho;rw [if_neg (by omega),if_neg (by omega),if_neg c2]]
        have z1:=hL (by omega) (by omega)
        have z2:=hAA p (s - 1) y1 (by omega) (by omega)
        have z3:=hBB e r (by omega) (by omega) y4
        omega
    · rw [show rho s m e p=m+(p - s) from by unfold rho;rw [if_neg c1,if_pos (by omega)]]
      by_cases c2:r<e
      · rw [show rho s m e r=r - (e - m) from by unfold rho;rw [if_neg (by omega),if_neg (by omega),if_pos c2]]
        have z1:=hR (by omega) (by omega)
        have z2:=hBB (m+(p - s)) (e - 1) (by omega) (by omega) (by omega)
        have z3:=hAA s (r - (e - m)) h1 (by omega) (by omega)
        omega
      · rw [show rho s m e r=r from by unfold rho;rw [if_neg (by omega),if_neg (by omega),if_neg c2]]
        exact hBB _ _ (by omega) (by omega) y4
  by_cases c1:j<q
  · rw [k3.2.1 i (.inl (by omega)),k3.2.1 j (.inl c1)]
    exact s2 i j x1 x2 c1
  · by_cases c2:q≤i
    · exact s3 i j c2 x2 x3
    · rw [k3.2.1 i (.inl (by omega))]
      obtain ⟨p,p1,p2,p3⟩:=k2.from_ i x1 (by omega)
      obtain ⟨r,r1,r2,r3⟩:=k3.from_ j (by omega) x3
      rw [k2.2.1 r (.inr r1)] at r3
      rw [← p3,← r3]
      exact cross p r p1 p2 r1 r2
theorem one_left {d d1:Array α} {a i b:Nat} (hb:b≤d.size) (h1:a+1≤i) (h2:i≤b) (hB:Srt key d (a+1) b) (hs1:d1.size=d.size) (hr:∀ t,d1[t]! = d[rho a (a+1) i t]!) (hL:a+1<i→key d[i - 1]! < key d[a]!) (hR:i<b→key d[a]! ≤ key d[i]!):MG key d a b d1∧Srt key d1 a b:=by
  have k:=merge_done (key:=key) (d:=d) (d1:=d1) (d2:=d1) (d3:=d1) (a:=a) (s:=a) (m:=a+1) (e:=i) (b:=b) (q:=a+(i - (a+1))) hb (Nat.le_refl _) (by omega) h1 h2 rfl (fun i j _ _ _ => by omega) hB hs1 hr (fun h => by omega) (fun _ h => hL h) (MG.refl _ _ _) (fun x y x1 x2 x3 => ?_) (MG.refl _ _ _) (fun x y x1 x2 x3 => ?_)
  · exact k
  · rw [hr,hr,show rho a (a+1) i x=a+1+(x - a) from by unfold rho;rw [if_neg (by omega),if_pos (by omega)],show rho a (a+1) i y=a+1+(y - a) from by unfold rho;rw [if_neg (by omega),if_pos (by omega)]]
    exact hB _ _ (by omega) (by omega) (by omega)
  · rw [hr,hr,show rho a (a+1) i y=y from by unfold rho;rw [if_neg (by omega),if_neg (by omega),if_neg (by omega)]]
    by_cases c:x<i
    · rw [show rho a (a+1) i x=a from by unfold rho;(repeat' split) <;> omega]
      rcases Nat.eq_or_lt_of_le (show i≤y from by omega) with rfl | c2
      · exact hR (by omega)
      · have:=hR (by omega)
        have:=hB i y (by omega) c2 x3
        omega
    · rw [show rho a (a+1) i x=x from by unfold rho;rw [if_neg (by omega),if_neg (by omega),if_neg (by omega)]]
      exact hB _ _ (by omega) x2 x3
theorem one_right {d d1:Array α} {a i m:Nat} (hb:m+1≤d.size) (h1:a≤i) (h2:i≤m) (hA:Srt key d a m) (hs1:d1.size=d.size) (hr:∀ t,d1[t]! = d[rho i m (m+1) t]!) (hL:a<i→key d[i - 1]! ≤ key d[m]!) (hR:i<m→key d[m]! < key d[i]!):MG key d a (m+1) d1∧Srt key d1 a (m+1):=by
  have k:=merge_done (key:=key) (d:=d) (d1:=d1) (d2:=d1) (d3:=d1) (a:=a) (s:=i) (m:=m) (e:=m+1) (b:=m+1) (q:=i+1) hb h1 h2 (by omega) (Nat.le_refl _) (by omega) hA (fun i j _ _ _ => by omega) hs1 hr (fun _ h => by omega) (fun h _ => hR h) (MG.refl _ _ _) (fun x y x1 x2 x3 => ?_) (MG.refl _ _ _) (fun x y x1 x2 x3 => ?_)
  · exact k
  · rw [hr,hr,show rho i m (m+1) x=x from by unfold rho;rw [if_pos (by omega)]]
    by_cases c:y<i
    · rw [show rho i m (m+1) y=y from by unfold rho;rw [if_pos c]]
      exact hA _ _ x1 x2 (by omega)
    · rw [show rho i m (m+1) y=m from by unfold rho;rw [if_neg c,if_pos (by omega)];omega]
      rcases Nat.eq_or_lt_of_le (show x+1≤i from by omega) with c2 | c2
      · have:=hL (by omega)
        rw [show i - 1=x from by omega] at this
        exact this
      · have:=hL (by omega)
        have:=hA x (i - 1) x1 (by omega) (by omega)
        omega
  · rw [hr,hr,show rho i m (m+1) x=x - 1 from by unfold rho;rw [if_neg (by omega),if_neg (by omega),if_pos (by omega)];omega,show rho i m (m+1) y=y - 1 from by unfold rho;rw [if_neg (by omega),if_neg (by omega),if_pos (by omega)];omega]
    exact hA _ _ (by omega) (by omega) (by omega)
end
end Go.Proofs.YtcgbgifbajdhpaaGreatDoor.PA
namespace Go.Proofs.YtcgbgifbajdhpaaGreatDoor.PA
open Go.Shelf Go.RowKit Go.Lib Go.Sort
instance:Inhabited S70:=⟨z70⟩
def encJ (x:S70):List Value:=[.int .i64 x.f0,.int .u64 x.f1]
theorem encJ_len (x:S70):(encJ x).length=2:=rfl
theorem encJ_one (x:S70):∀ v ∈ encJ x,v.oneCell'=true:=by
  intro v hv
  simp only [encJ,List.mem_cons,List.not_mem_nil,or_false] at hv
  rcases hv with rfl | rfl <;> rfl
section
variable {w0 W:World} {blk off:Nat} {d0 dk:Array S70}
theorem swk_cell (h:SWK encJ 2 w0 blk off dk W) (R:RowK encJ 2 w0 blk off d0) (hs:dk.size=d0.size) (i:Nat) (hi:i<dk.size) :
    W.cell? ⟨blk,off+i*2,none⟩=some (.int .i64 dk[i]!.f0)∧W.cell? ⟨blk,off+i*2+1,none⟩=some (.int .u64 dk[i]!.f1)∧W.frozen? ⟨blk,off+i*2,none⟩=false∧W.frozen? ⟨blk,off+i*2+1,none⟩=false:=by
  have H:=h.holds R.hblk R.hH hs
  have h0:=HoldsK.cell H (c:=0) hi (by omega)
  have h1:=HoldsK.cell H (c:=1) hi (by omega)
  exact ⟨h0.1,h1.1,h0.2,h1.2⟩
def exch (W:World) (blk off i j:Nat) (x y:S70):World:=((((W.setCell ⟨blk,off+i*2,none⟩ (.int .i64 x.f0)).setCell ⟨blk,off+i*2+1,none⟩ (.int .u64 x.f1)).setCell ⟨blk,off+j*2,none⟩ (.int .i64 y.f0)).setCell ⟨blk,off+j*2+1,none⟩ (.int .u64 y.f1)).drew
theorem exch_eq (W:World) (blk off i j:Nat) (x y:S70):((((W.setCell ⟨blk,off+i*2,none⟩ (.int .i64 x.f0)).setCell ⟨blk,off+i*2+1,none⟩ (.int .u64 x.f1)).setCell ⟨blk,off+j*2,none⟩ (.int .i64 y.f0)).setCell ⟨blk,off+j*2+1,none⟩ (.int .u64 y.f1)).drew=exch W blk off i j x y:=rfl
theorem swk_swap (h:SWK encJ 2 w0 blk off dk W) (R:RowK encJ 2 w0 blk off d0) (i j:Nat) (hi:i<dk.size) (hj:j<dk.size):SWK encJ 2 w0 blk off (swp dk i j) (exch W blk off i j dk[j]! dk[i]!):=h.swapped R i j hi hj
theorem swk_second (h:SWK encJ 2 w0 blk off dk W) (R:RowK encJ 2 w0 blk off d0) (hs:dk.size=d0.size) (i j:Nat) (hij:i ≠ j) (hj:j<dk.size) (u v:Value) :
    ((W.setCell ⟨blk,off+i*2,none⟩ u).setCell ⟨blk,off+i*2+1,none⟩ v).drew.cell? ⟨blk,off+j*2,none⟩=some (.int .i64 dk[j]!.f0)∧((W.setCell ⟨blk,off+i*2,none⟩ u).setCell ⟨blk,off+i*2+1,none⟩ v).drew.cell? ⟨blk,off+j*2+1,none⟩=some (.int .u64 dk[j]!.f1):=by
  obtain ⟨q0,q1,_,_⟩:=swk_cell h R hs j hj
  constructor
  · show ((W.setCell _ u).setCell _ v).cell? _=_
    rw [World.cell?_setCell_other _ _ _ _ (by intro e;injection e with _ e _;omega),World.cell?_setCell_other _ _ _ _ (by intro e;injection e with _ e _;omega)];exact q0
  · show ((W.setCell _ u).setCell _ v).cell? _=_
    rw [World.cell?_setCell_other _ _ _ _ (by intro e;injection e with _ e _;omega),World.cell?_setCell_other _ _ _ _ (by intro e;injection e with _ e _;omega)];exact q1
theorem swk_cmp {cf:S70→S70→Int} {g:Nat} (h:SWK encJ 2 w0 blk off dk W) (hC:CmpLays Tryz.prog g #[] encJ 2 cf blk off d0.size w0) (hs:dk.size=d0.size) (x y:S70) (n:Nat) (os:Array Obj) :
    Calls Tryz.prog g #[.agg #[.int .i64 x.f0,.int .u64 x.f1],.agg #[.int .i64 y.f0,.int .u64 y.f1]] (grow (W.drewN n) os) fun e w' => e = .returned (.int .i64 (cf x y))∧∃ q os',w'=grow ((grow (W.drewN n) os).drewN q) os' :=
  h.cmp hC hs x y n os
theorem swk_gcell (h:SWK encJ 2 w0 blk off dk W) (R:RowK encJ 2 w0 blk off d0) (hs:dk.size=d0.size) (i:Nat) (hi:i<dk.size) (n:Nat) (os:Array Obj) :
    (grow (W.drewN n) os).cell? ⟨blk,off+i*2,none⟩=some (.int .i64 dk[i]!.f0)∧(grow (W.drewN n) os).cell? ⟨blk,off+i*2+1,none⟩=some (.int .u64 dk[i]!.f1) :=
  ⟨(swk_cell (h.grown n os) R hs i hi).1,(swk_cell (h.grown n os) R hs i hi).2.1⟩
end
theorem swapRange.calls (g:Nat) (blk off cap a b n:Nat) (d0 d:Array S70) (w0 w:World) (R:RowK encJ 2 w0 blk off d0) (hs:d0.size=d.size) (S:SWK encJ 2 w0 blk off d w) (ha:a+n≤b) (hb:b+n≤d.size) (hsz:d.size<4611686018427387904) :
    Calls Tryz.prog 159 #[.slice (some ⟨blk,off,none⟩) d.size cap,.int .i64 a,.int .i64 b,.int .i64 n,.func (.func g) #[] #[]] w fun e w' => e = .returned (.tuple #[])∧SWK encJ 2 w0 blk off (swR d a b n) w':=by
  have mixed:Tryz.prog.follows .mixedOrders=true:=by kernel_rfl
  have S0:Aside (SWK encJ 2 w0 blk off d w):=S
  clear S
  go_enter Tryz.func159,Tryz.ntmps159
  go_wp2
  go_loopg [10] n (fun kx s wr => ∃ (m:Nat),s = .int .i64 m∧m≤n∧n - m≤kx∧Aside (SWK encJ 2 w0 blk off (swR d a b m) wr))
  case atStart => exact ⟨0,rfl,by omega,by omega,S0⟩
  case round =>
    clear S0
    obtain ⟨m,rfl,hm,hkx,S1⟩:=hrel
    by_cases hlt:(m:Int)<(n:Int)
    · have hds:=swR_size d a b m
      generalize hdk:swR d a b m=dk at S1 hds
      have ea44:((a:Int)+(m:Int)).toNat=a+m:=by omega
      have pa44:(0:Int)≤(a:Int)+(m:Int):=by omega
      have ba44:(a:Int)+(m:Int)<(d.size:Int):=by omega
      have ra44:IntKind.i64.wrap ((a:Int)+(m:Int))=(a:Int)+(m:Int):=by rw [IntKind.wrap_i64];omega
      have ec44:((b:Int)+(m:Int)).toNat=b+m:=by omega
      have pc44:(0:Int)≤(b:Int)+(m:Int):=by omega
      have bc44:(b:Int)+(m:Int)<(d.size:Int):=by omega
      have rc44:IntKind.i64.wrap ((b:Int)+(m:Int))=(b:Int)+(m:Int):=by rw [IntKind.wrap_i64];omega
      have S2:Aside (SWK encJ 2 w0 blk off (swp dk (a+m) (b+m)) (exch wr blk off (a+m) (b+m) dk[b+m]! dk[a+m]!)):=swk_swap S1.out R (a+m) (b+m) (by omega) (by omega)
      obtain ⟨p0,p1,_,_⟩:=swk_cell S1.out.drew R (by omega) (a+m) (by omega)
      obtain ⟨q0,q1,_,_⟩:=swk_cell S1.out.drew R (by omega) (b+m) (by omega)
      obtain ⟨_,_,f2,f3⟩:=swk_cell S1.out R (by omega) (a+m) (by omega)
      obtain ⟨_,_,g2,g3⟩:=swk_cell S1.out R (by omega) (b+m) (by omega)
      have q3:=fun u v => (swk_second S1.out R (by omega) (a+m) (b+m) (by omega) (by omega) u v).1
      have q4:=fun u v => (swk_second S1.out R (by omega) (a+m) (b+m) (by omega) (by omega) u v).2
      generalize dk[a+m]! = X at *
      generalize dk[b+m]! = Y at *
      clear S1
      go_wp2_with fail
      go_big_region_o
      clear p0 p1 q0 q1 f2 f3 g2 g3 q3 q4
      rw [exch_eq]
      generalize exch wr blk off (a+m) (b+m) Y X=w2 at S2 ⊢
      have S3:Aside (SWK encJ 2 w0 blk off (swR d a b (m+1)) w2):=by rw [swR,hdk];exact S2
      clear S2
      go_wp2
      go_roundg (n - (m+1))
      case measure => omega
      case rel => exact ⟨m+1,by go_num,by omega,Nat.le_refl _,S3⟩
    · obtain rfl:m=n:=by omega
      go_wp2
      go_end0
      exact ⟨rfl,S1.out⟩
theorem rotate.calls (g:Nat) (blk off cap a m b:Nat) (d0 d:Array S70) (w0 w:World) (R:RowK encJ 2 w0 blk off d0) (hs:d0.size=d.size) (S:SWK encJ 2 w0 blk off d w) (ha:a<m) (hm:m<b) (hb:b≤d.size) (hsz:d.size<4611686018427387904) :
    Calls Tryz.prog 155 #[.slice (some ⟨blk,off,none⟩) d.size cap,.int .i64 a,.int .i64 m,.int .i64 b,.func (.func g) #[] #[]] w fun e w' => e = .returned (.tuple #[])∧∃ d',SWK encJ 2 w0 blk off d' w'∧d'.size=d.size∧∀ t,d'[t]! = d[rho a m b t]! := by
  have mixed:Tryz.prog.follows .mixedOrders=true:=by kernel_rfl
  have S0:Aside (SWK encJ 2 w0 blk off d w):=S
  clear S
  go_enter Tryz.func155,Tryz.ntmps155
  go_wp2
  go_loopg [10,11] b (fun kx s10 s11 wr => ∃ (i j:Nat) (dk:Array S70),s10 = .int .i64 i∧s11 = .int .i64 j∧0<i∧0<j∧i≤m∧m+j≤d.size∧i+j≤kx∧dk.size=d.size∧Aside (SWK encJ 2 w0 blk off dk wr)∧Aside (∀ t,dk[rho (m - i) m (m+j) t]! = d[rho a m b t]!))
  case atStart => exact ⟨m - a,b - m,d,by go_num,by go_num,by omega,by omega,by omega,by omega,by omega,rfl,S0,by show ∀ t,_;intro t;rw [show m - (m - a)=a from by omega,show m+(b - m)=b from by omega]⟩
  case round =>
    clear S0
    obtain ⟨i,j,dk,rfl,rfl,hi,hj,him,hmj,hkx,hds,S1,HR⟩:=hrel
    have rw1:IntKind.i64.wrap ((m:Int) - (i:Int))=((m - i:Nat):Int):=by rw [IntKind.wrap_i64];omega
    have rw2:(m:Int) - (i:Int)=((m - i:Nat):Int):=by omega
    by_cases hij:i=j
    · subst hij
      have hc:=swapRange.calls g blk off cap (m - i) m i d0 dk w0 wr R (by omega) S1.out (by omega) (by omega) (by omega)
      rw [hds] at hc
      have HC:=YtcgbgifbajdhpaaGreatDoorW.PrintWords.Aside0.mk hc
      clear hc
      go_wp2_with (first | (go_at_call 159;refine HC.out.mono ?_;rintro e w1 ⟨rfl,hS⟩;have S2:Aside (SWK encJ 2 w0 blk off (swR dk (m - i) m i) w1):=hS;clear hS))
      go_end0
      refine ⟨rfl,_,S2.out,by rw [swR_size];exact hds,fun t => ?_⟩
      rw [swR_get dk _ _ i (by omega) (by omega),rho_same i m t him]
      exact HR.out t
    · by_cases hlt:j<i
      · have hgz:(i:Int) > (j:Int):=by omega
        have hne:¬ (i:Int)=(j:Int):=by omega
        have hc:=swapRange.calls g blk off cap (m - i) m j d0 dk w0 wr R (by omega) S1.out (by omega) (by omega) (by omega)
        rw [hds] at hc
        have HC:=YtcgbgifbajdhpaaGreatDoorW.PrintWords.Aside0.mk hc
        clear hc
        go_wp2_with (first | (go_at_call 159;refine HC.out.mono ?_;rintro e w1 ⟨rfl,hS⟩;have S2:Aside (SWK encJ 2 w0 blk off (swR dk (m - i) m j) w1):=hS;clear hS))
        go_roundg (i+j - 1)
        case measure => omega
        case rel =>
          refine ⟨i - j,j,swR dk (m - i) m j,by go_num,rfl,by omega,hj,by omega,hmj,by omega,by rw [swR_size];exact hds,S2,?_⟩
          show ∀ t,_
          intro t
          rw [swR_get dk _ _ j (by omega) (by omega),rho_left i j m t hlt him]
          exact HR.out t
      · have hgz:¬ (i:Int) > (j:Int):=by omega
        have hne:¬ (i:Int)=(j:Int):=by omega
        have rw3:(m:Int)+(j:Int) - (i:Int)=((m+j - i:Nat):Int):=by omega
        have hc:=swapRange.calls g blk off cap (m - i) (m+j - i) i d0 dk w0 wr R (by omega) S1.out (by omega) (by omega) (by omega)
        rw [hds] at hc
        have HC:=YtcgbgifbajdhpaaGreatDoorW.PrintWords.Aside0.mk hc
        clear hc
        go_wp2_with (first | (go_at_call 159;refine HC.out.mono ?_;rintro e w1 ⟨rfl,hS⟩;have S2:Aside (SWK encJ 2 w0 blk off (swR dk (m - i) (m+j - i) i) w1):=hS;clear hS))
        go_roundg (i+j - 1)
        case measure => omega
        case rel =>
          refine ⟨i,j - i,swR dk (m - i) (m+j - i) i,rfl,by go_num,hi,by omega,him,by omega,by omega,by rw [swR_size];exact hds,S2,?_⟩
          show ∀ t,_
          intro t
          rw [swR_get dk _ _ i (by omega) (by omega),rho_right i j m t (by omega) him]
          exact HR.out t
theorem rho_up {α:Type} [Inhabited α] {d dk:Array α} {a k:Nat} (hs:dk.size=d.size) (hk:k+1<d.size) (ha:a≤k) (h:∀ t,dk[t]! = d[rho a (a+1) (k+1) t]!):∀ t,(swp dk k (k+1))[t]! = d[rho a (a+1) (k+1+1) t]! := fun t => by
  rw [swp_get dk (by omega) (by omega),h,h,h]
  by_cases e1:t=k+1
  · rw [if_pos e1,show rho a (a+1) (k+1) k=rho a (a+1) (k+1+1) t from by unfold rho;(repeat' split) <;> omega]
  · rw [if_neg e1]
    by_cases e2:t=k
    · rw [if_pos e2,show rho a (a+1) (k+1) (k+1)=rho a (a+1) (k+1+1) t from by unfold rho;(repeat' split) <;> omega]
    · rw [if_neg e2,show rho a (a+1) (k+1) t=rho a (a+1) (k+1+1) t from by unfold rho;(repeat' split) <;> omega]
theorem rho_down {α:Type} [Inhabited α] {d dk:Array α} {m k:Nat} (hs:dk.size=d.size) (hk:k+1<d.size) (ha:k+1≤m) (h:∀ t,dk[t]! = d[rho (k+1) m (m+1) t]!):∀ t,(swp dk (k+1) k)[t]! = d[rho k m (m+1) t]! := fun t => by
  rw [swp_get dk (by omega) (by omega),h,h,h]
  by_cases e1:t=k
  · rw [if_pos e1,show rho (k+1) m (m+1) (k+1)=rho k m (m+1) t from by unfold rho;(repeat' split) <;> omega]
  · rw [if_neg e1]
    by_cases e2:t=k+1
    · rw [if_pos e2,show rho (k+1) m (m+1) k=rho k m (m+1) t from by unfold rho;(repeat' split) <;> omega]
    · rw [if_neg e2,show rho (k+1) m (m+1) t=rho k m (m+1) t from by unfold rho;(repeat' split) <;> omega]
def SymAt (g:Nat) (cf:S70→S70→Int) (key:S70→Int) (blk off cap:Nat) (d0:Array S70) (w0:World) (n:Nat):Prop :=
    ∀ (a m b:Nat) (d:Array S70) (w:World),b - a≤n→d.size=d0.size→SWK encJ 2 w0 blk off d w→a<m→m<b→b≤d0.size→Srt key d a m→Srt key d m b →
    Calls Tryz.prog 149 #[.slice (some ⟨blk,off,none⟩) d0.size cap,.int .i64 a,.int .i64 m,.int .i64 b,.func (.func g) #[] #[]] w fun e w' => e = .returned (.tuple #[])∧∃ d',SWK encJ 2 w0 blk off d' w'∧MG key d a b d'∧Srt key d' a b
theorem symMerge.left (g:Nat) (cf:S70→S70→Int) (key:S70→Int) (hcf:∀ x y,cf x y<0↔key x<key y) (eg:∀ args w,(callFunc g args).run Tryz.prog w = .ok (.enter g args) w)
    (blk off cap:Nat) (d0:Array S70) (w0:World) (R:RowK encJ 2 w0 blk off d0) (hC:CmpLays Tryz.prog g #[] encJ 2 cf blk off d0.size w0) (hsz:d0.size<4611686018427387904)
    (a m b:Nat) (d:Array S70) (w:World) (hma:m=a+1) (hs:d.size=d0.size) (S:SWK encJ 2 w0 blk off d w) (hm:a+1<b) (hb:b≤d0.size) (hB:Srt key d (a+1) b) :
    Calls Tryz.prog 149 #[.slice (some ⟨blk,off,none⟩) d0.size cap,.int .i64 (a),.int .i64 (m),.int .i64 (b),.func (.func g) #[] #[]] w fun e w' => e = .returned (.tuple #[])∧∃ d',SWK encJ 2 w0 blk off d' w'∧MG key d a (b) d'∧Srt key d' a (b):=by
  have mixed:Tryz.prog.follows .mixedOrders=true:=by kernel_rfl
  have S0:Aside (SWK encJ 2 w0 blk off d w):=S
  have HC:=YtcgbgifbajdhpaaGreatDoorW.PrintWords.Aside0.mk hC
  have HCF:=YtcgbgifbajdhpaaGreatDoorW.PrintWords.Aside0.mk hcf
  have SB:=YtcgbgifbajdhpaaGreatDoorW.PrintWords.Aside0.mk hB
  clear S hC hcf hB
  have h1z:(m:Int) - (a:Int)=1:=by omega
  have m1:m≤a+1:=by omega
  have m2:a+1≤m:=by omega
  clear hma
  go_enter Tryz.func149,Tryz.ntmps149
  go_wp2
  go_loopg [10,11] (b - m) (fun kx s10 s11 wr => ∃ (i j:Nat),s10 = .int .i64 i∧s11 = .int .i64 j∧a+1≤i∧i≤j∧j≤b∧j - i≤kx∧Aside (SWK encJ 2 w0 blk off d wr)∧Aside (a+1<i→key d[i - 1]! < key d[a]!)∧Aside (j<b→key d[a]! ≤ key d[j]!))
  case atStart => exact ⟨m,b,rfl,rfl,by omega,by omega,Nat.le_refl _,Nat.le_refl _,S0,(fun h => by omega),(fun h => by omega)⟩
  case round =>
    clear S0
    obtain ⟨i,j,rfl,rfl,hai,hij,hjb,hkx,S1,HL,HR⟩:=hrel
    by_cases hlt:i<j
    · have hltz:(i:Int)<(j:Int):=by omega
      have c0:=fun n' os' => (swk_gcell S1.out R hs ((i+j) / 2) (by omega) n' os').1
      have c1:=fun n' os' => (swk_gcell S1.out R hs ((i+j) / 2) (by omega) n' os').2
      have e0:=fun n' os' => (swk_gcell S1.out R hs a (by omega) n' os').1
      have e1:=fun n' os' => (swk_gcell S1.out R hs a (by omega) n' os').2
      have hc:=fun n' os' => swk_cmp S1.out HC.out hs d[(i+j) / 2]! d[a]! n' os'
      have pa:(0:Int)≤((i:Int)+(j:Int)) / 2:=by omega
      have ba:((i:Int)+(j:Int)) / 2<(d0.size:Int):=by omega
      have ea:(((i:Int)+(j:Int)) / 2).toNat=(i+j) / 2:=by omega
      have b1:(a:Int)<(d0.size:Int):=by omega
      cases hv:decide (cf d[(i+j) / 2]! d[a]! < 0) with
      | true =>
        have HX:=YtcgbgifbajdhpaaGreatDoorW.PrintWords.Aside0.mk ((HCF.out _ _).1 (of_decide_eq_true hv))
        generalize d[(i+j) / 2]! = x at c0 c1 hc hv
        generalize d[a]! = y at e0 e1 hc hv
        go_wp2_with fail
        go_quiet_grown (first | (go_at_fn g;refine Calls.grown_of (hc _ _)))
        have S2:Aside (SWK encJ 2 w0 blk off d (grow (wr.drewN nq) osq)):=S1.out.grown nq osq
        clear c0 c1 e0 e1 hc S1
        generalize grow (wr.drewN nq) osq=w2 at S2 ⊢
        clear nq osq
        go_wp2
        go_roundg (j - ((i+j) / 2+1))
        case measure => omega
        case rel => exact ⟨(i+j) / 2+1,j,by go_num,rfl,by omega,by omega,hjb,Nat.le_refl _,S2,(fun _ => HX.out),HR⟩
      | false =>
        have HX:=YtcgbgifbajdhpaaGreatDoorW.PrintWords.Aside0.mk (fun h => of_decide_eq_false hv ((HCF.out _ _).2 h))
        generalize d[(i+j) / 2]! = x at c0 c1 hc hv
        generalize d[a]! = y at e0 e1 hc hv
        go_wp2_with fail
        go_quiet_grown (first | (go_at_fn g;refine Calls.grown_of (hc _ _)))
        have S2:Aside (SWK encJ 2 w0 blk off d (grow (wr.drewN nq) osq)):=S1.out.grown nq osq
        clear c0 c1 e0 e1 hc S1
        generalize grow (wr.drewN nq) osq=w2 at S2 ⊢
        clear nq osq
        go_wp2
        go_roundg ((i+j) / 2 - i)
        case measure => omega
        case rel => exact ⟨i,(i+j) / 2,rfl,by go_num,hai,by omega,by omega,Nat.le_refl _,S2,HL,(fun _ => Int.not_lt.1 HX.out)⟩
    · obtain rfl:i=j:=by omega
      have hltz:¬ (i:Int)<(i:Int):=by omega
      go_wp2
      go_loopg [13] (i - 1 - a) (fun kx s13 wr => ∃ (k:Nat) (dk:Array S70),s13 = .int .i64 k∧a≤k∧k≤i - 1∧i - 1 - k≤kx∧dk.size=d0.size∧Aside (SWK encJ 2 w0 blk off dk wr)∧Aside (∀ t,dk[t]! = d[rho a (a+1) (k+1) t]!))
      case atStart => exact ⟨a,d,rfl,Nat.le_refl _,by omega,Nat.le_refl _,hs,S1,(fun t => by rw [rho_none a (a+1) (a+1) t (by omega) (by omega) (by omega)])⟩
      case round =>
        clear S1
        obtain ⟨k,dk,rfl,hak,hki,hkx2,hds,S2,HK⟩:=hrel
        by_cases hlt2:k<i - 1
        · have hltz2:(k:Int)<(i:Int) - 1:=by omega
          have ew:((k:Int)+1).toNat=k+1:=by omega
          have pw:(0:Int)≤(k:Int)+1:=by omega
          have bw:(k:Int)+1<(d0.size:Int):=by omega
          have bw2:(k:Int)<(d0.size:Int):=by omega
          obtain ⟨p0,p1,_,_⟩:=swk_cell S2.out.drew R (by omega) k (by omega)
          obtain ⟨q0,q1,_,_⟩:=swk_cell S2.out.drew R (by omega) (k+1) (by omega)
          obtain ⟨_,_,f2,f3⟩:=swk_cell S2.out R (by omega) k (by omega)
          obtain ⟨_,_,g2,g3⟩:=swk_cell S2.out R (by omega) (k+1) (by omega)
          have q3:=fun u v => (swk_second S2.out R (by omega) k (k+1) (by omega) (by omega) u v).1
          have q4:=fun u v => (swk_second S2.out R (by omega) k (k+1) (by omega) (by omega) u v).2
          have S3:Aside (SWK encJ 2 w0 blk off (swp dk k (k+1)) (exch wr blk off k (k+1) dk[k+1]! dk[k]!)):=swk_swap S2.out R k (k+1) (by omega) (by omega)
          clear S2
          generalize dk[k]! = X at *
          generalize dk[k+1]! = Y at *
          go_wp2_with fail
          go_big_region_o
          clear p0 p1 q0 q1 f2 f3 g2 g3 q3 q4
          rw [exch_eq]
          generalize exch wr blk off k (k+1) Y X=w2 at S3 ⊢
          go_wp2
          go_roundg (i - 1 - (k+1))
          case measure => omega
          case rel => exact ⟨k+1,swp dk k (k+1),by go_num,by omega,by omega,Nat.le_refl _,by rw [size_swp];exact hds,S3,rho_up (by omega) (by omega) hak HK.out⟩
        · have hltz2:¬ (k:Int)<(i:Int) - 1:=by omega
          go_wp2
          have he:=one_left (key:=key) (d:=d) (d1:=dk) (a:=a) (i:=i) (b:=b) (by omega) hai hjb SB.out (by omega) (fun t => by rw [HK.out,show k+1=i from by omega]) HL.out HR.out
          (try simp only [Exit.inBlock,Exit.then]);refine bodyPost_ret (results_none rfl _ _ _) rfl ?_
          exact ⟨rfl,dk,S2.out,he.1,he.2⟩
theorem symMerge.right (g:Nat) (cf:S70→S70→Int) (key:S70→Int) (hcf:∀ x y,cf x y<0↔key x<key y) (eg:∀ args w,(callFunc g args).run Tryz.prog w = .ok (.enter g args) w)
    (blk off cap:Nat) (d0:Array S70) (w0:World) (R:RowK encJ 2 w0 blk off d0) (hC:CmpLays Tryz.prog g #[] encJ 2 cf blk off d0.size w0) (hsz:d0.size<4611686018427387904)
    (a m b:Nat) (d:Array S70) (w:World) (hmb:b=m+1) (hs:d.size=d0.size) (S:SWK encJ 2 w0 blk off d w) (h1:m ≠ a+1) (ha:a<m) (hb:b≤d0.size) (hA:Srt key d a m) :
    Calls Tryz.prog 149 #[.slice (some ⟨blk,off,none⟩) d0.size cap,.int .i64 (a),.int .i64 (m),.int .i64 (b),.func (.func g) #[] #[]] w fun e w' => e = .returned (.tuple #[])∧∃ d',SWK encJ 2 w0 blk off d' w'∧MG key d a b d'∧Srt key d' a b:=by
  have mixed:Tryz.prog.follows .mixedOrders=true:=by kernel_rfl
  have S0:Aside (SWK encJ 2 w0 blk off d w):=S
  have HC:=YtcgbgifbajdhpaaGreatDoorW.PrintWords.Aside0.mk hC
  have HCF:=YtcgbgifbajdhpaaGreatDoorW.PrintWords.Aside0.mk hcf
  have SA:=YtcgbgifbajdhpaaGreatDoorW.PrintWords.Aside0.mk hA
  clear S hC hcf hA
  have h1z:¬ (m:Int) - (a:Int)=1:=by omega
  have h1b:((m:Int) - (a:Int) == 1)=false:=beq_eq_false_iff_ne.2 h1z
  have h2z:(b:Int) - (m:Int)=1:=by omega
  have m1:b≤m+1:=by omega
  have m2:m+1≤b:=by omega
  have HMB:=YtcgbgifbajdhpaaGreatDoorW.PrintWords.Aside0.mk hmb
  clear hmb h1
  go_enter Tryz.func149,Tryz.ntmps149
  go_wp2
  go_loopg [14,15] (m - a) (fun kx s10 s11 wr => ∃ (i j:Nat),s10 = .int .i64 i∧s11 = .int .i64 j∧a≤i∧i≤j∧j≤m∧j - i≤kx∧Aside (SWK encJ 2 w0 blk off d wr)∧Aside (a<i→key d[i - 1]! ≤ key d[m]!)∧Aside (j<m→key d[m]! < key d[j]!))
  case atStart => exact ⟨a,m,rfl,rfl,Nat.le_refl _,by omega,Nat.le_refl _,Nat.le_refl _,S0,(fun h => by omega),(fun h => by omega)⟩
  case round =>
    clear S0
    obtain ⟨i,j,rfl,rfl,hai,hij,hjb,hkx,S1,HL,HR⟩:=hrel
    by_cases hlt:i<j
    · have hltz:(i:Int)<(j:Int):=by omega
      have c0:=fun n' os' => (swk_gcell S1.out R hs ((i+j) / 2) (by omega) n' os').1
      have c1:=fun n' os' => (swk_gcell S1.out R hs ((i+j) / 2) (by omega) n' os').2
      have e0:=fun n' os' => (swk_gcell S1.out R hs m (by omega) n' os').1
      have e1:=fun n' os' => (swk_gcell S1.out R hs m (by omega) n' os').2
      have hc:=fun n' os' => swk_cmp S1.out HC.out hs d[m]! d[(i+j) / 2]! n' os'
      have pa:(0:Int)≤((i:Int)+(j:Int)) / 2:=by omega
      have ba:((i:Int)+(j:Int)) / 2<(d0.size:Int):=by omega
      have ea:(((i:Int)+(j:Int)) / 2).toNat=(i+j) / 2:=by omega
      have b1:(m:Int)<(d0.size:Int):=by omega
      cases hv:decide (cf d[m]! d[(i+j) / 2]! < 0) with
      | false =>
        have HX:=YtcgbgifbajdhpaaGreatDoorW.PrintWords.Aside0.mk (fun h => of_decide_eq_false hv ((HCF.out _ _).2 h))
        generalize d[(i+j) / 2]! = y at c0 c1 hc hv
        generalize d[m]! = x at e0 e1 hc hv
        go_wp2_with fail
        go_quiet_grown (first | (go_at_fn g;refine Calls.grown_of (hc _ _)))
        have S2:Aside (SWK encJ 2 w0 blk off d (grow (wr.drewN nq) osq)):=S1.out.grown nq osq
        clear c0 c1 e0 e1 hc S1
        generalize grow (wr.drewN nq) osq=w2 at S2 ⊢
        clear nq osq
        go_wp2
        go_roundg (j - ((i+j) / 2+1))
        case measure => omega
        case rel => exact ⟨(i+j) / 2+1,j,by go_num,rfl,by omega,by omega,hjb,Nat.le_refl _,S2,(fun _ => Int.not_lt.1 HX.out),HR⟩
      | true =>
        have HX:=YtcgbgifbajdhpaaGreatDoorW.PrintWords.Aside0.mk ((HCF.out _ _).1 (of_decide_eq_true hv))
        generalize d[(i+j) / 2]! = y at c0 c1 hc hv
        generalize d[m]! = x at e0 e1 hc hv
        go_wp2_with fail
        go_quiet_grown (first | (go_at_fn g;refine Calls.grown_of (hc _ _)))
        have S2:Aside (SWK encJ 2 w0 blk off d (grow (wr.drewN nq) osq)):=S1.out.grown nq osq
        clear c0 c1 e0 e1 hc S1
        generalize grow (wr.drewN nq) osq=w2 at S2 ⊢
        clear nq osq
        go_wp2
        go_roundg ((i+j) / 2 - i)
        case measure => omega
        case rel => exact ⟨i,(i+j) / 2,rfl,by go_num,hai,by omega,by omega,Nat.le_refl _,S2,HL,(fun _ => HX.out)⟩
    · obtain rfl:i=j:=by omega
      have hltz:¬ (i:Int)<(i:Int):=by omega
      go_wp2
      go_loopg [17] (m - i) (fun kx s13 wr => ∃ (k:Nat) (dk:Array S70),s13 = .int .i64 k∧i≤k∧k≤m∧k - i≤kx∧dk.size=d0.size∧Aside (SWK encJ 2 w0 blk off dk wr)∧Aside (∀ t,dk[t]! = d[rho k m (m+1) t]!))
      case atStart => exact ⟨m,d,rfl,by omega,by omega,Nat.le_refl _,hs,S1,(fun t => by rw [rho_none m m (m+1) t (by omega) (by omega) (by omega)])⟩
      case round =>
        clear S1
        obtain ⟨k,dk,rfl,hak,hki,hkx2,hds,S2,HK⟩:=hrel
        by_cases hlt2:i<k
        · obtain ⟨kp,rfl⟩:∃ kp,k=kp+1:=⟨k - 1,by omega⟩
          have hltz2:((kp+1:Nat):Int) > (i:Int):=by omega
          have hltz3:(i:Int)<(kp:Int)+1:=by omega
          have ew:((kp:Int)+1).toNat=kp+1:=by omega
          have ew2:((kp:Int)+1 - 1).toNat=kp:=by omega
          have pw:(0:Int)≤(kp:Int)+1:=by omega
          have bw:(kp:Int)+1<(d0.size:Int):=by omega
          have bw2:(kp:Int)<(d0.size:Int):=by omega
          obtain ⟨p0,p1,_,_⟩:=swk_cell S2.out.drew R (by omega) (kp+1) (by omega)
          obtain ⟨q0,q1,_,_⟩:=swk_cell S2.out.drew R (by omega) kp (by omega)
          obtain ⟨_,_,f2,f3⟩:=swk_cell S2.out R (by omega) (kp+1) (by omega)
          obtain ⟨_,_,g2,g3⟩:=swk_cell S2.out R (by omega) kp (by omega)
          have q3:=fun u v => (swk_second S2.out R (by omega) (kp+1) kp (by omega) (by omega) u v).1
          have q4:=fun u v => (swk_second S2.out R (by omega) (kp+1) kp (by omega) (by omega) u v).2
          have S3:Aside (SWK encJ 2 w0 blk off (swp dk (kp+1) kp) (exch wr blk off (kp+1) kp dk[kp]! dk[kp+1]!)):=swk_swap S2.out R (kp+1) kp (by omega) (by omega)
          clear S2
          generalize dk[kp+1]! = X at *
          generalize dk[kp]! = Y at *
          go_wp2_with fail
          go_big_region_o
          clear p0 p1 q0 q1 f2 f3 g2 g3 q3 q4
          rw [exch_eq]
          generalize exch wr blk off (kp+1) kp Y X=w2 at S3 ⊢
          go_wp2
          go_roundg (kp - i)
          case measure => omega
          case rel => exact ⟨kp,swp dk (kp+1) kp,by go_num,by omega,by omega,Nat.le_refl _,by rw [size_swp];exact hds,S3,rho_down (by omega) (by omega) (by omega) HK.out⟩
        · have hltz2:¬ ((k:Nat):Int) > (i:Int):=by omega
          have hltz3:¬ (i:Int)<(k:Int):=by omega
          go_wp2
          have hmb:=HMB.out
          subst hmb
          have he:=one_right (key:=key) (d:=d) (d1:=dk) (a:=a) (i:=i) (m:=m) (by omega) hai hjb SA.out (by omega) (fun t => by rw [HK.out,show k=i from by omega]) HL.out HR.out
          (try simp only [Exit.inBlock,Exit.then]);refine bodyPost_ret (results_none rfl _ _ _) rfl ?_
          exact ⟨rfl,dk,S2.out,he.1,he.2⟩
def tlC:Nat→Code→Code
  | 0,c => c
  | k+1,.seq _ b => tlC k b
  | _,c => c
theorem symMerge.t43 (g:Nat) (cf:S70→S70→Int) (key:S70→Int) (blk off cap:Nat) (d0:Array S70) (w0:World) (R:RowK encJ 2 w0 blk off d0) (hsz:d0.size<4611686018427387904) (n:Nat) (hIH:SymAt g cf key blk off cap d0 w0 n)
    (a m b q i e:Nat) (d:Array S70) (w:World) (hn:b - a≤n+1) (hs:d.size=d0.size) (hm:m<b) (hb:b≤d0.size) (q1:2*q≤a+b) (q2:a+b≤2*q+1) (hs0i:a≤i) (him:i≤m) (E1:e+i=q+m) (e3:m≤e) (e4:e≤b) (e5:i≤q) (e6:q≤e) (hA:Srt key d a m) (hB:Srt key d m b) (hL:a<i→e<b→key d[i - 1]! ≤ key d[e]!) (hR:i<m→m<e→key d[e - 1]! < key d[i]!) (d1 d2:Array S70) (hz1:d1.size=d0.size) (hp1:∀ t,d1[t]! = d[rho i m e t]!) (k2:MG key d1 a q d2) (s2:Srt key d2 a q) (t1:∀ x y,q≤x→x<y→y<e→key d2[x]! ≤ key d2[y]!) (t2:∀ x y,e≤x→x<y→y<b→key d2[x]! ≤ key d2[y]!) (S:SWK encJ 2 w0 blk off d2 w)
    {u5 u6 u7 u8 u9 u10 u11 u12 u13 u14 u15 u16 u17 u19 u21 u22 u23 u25 u26 u27 u28 u29 u30 u31 u32 u33 u34 u35 u36 u37 u38 u39 u40 u41 u42 u43 u44 u45 u46 u47 u48 u49 u50 u51 u52 u53 u54 u55 u56 u57 u58 u59 u60 u61 u62 u63 u64 u65 u66 u67 u68 u69 u70 u71 u72 u73 u74 u75 u76 u77 u78 u79 u80 u81 u82 u83 u84 u85 u86 u87 u88 u89 u90 u91 u92 u93 u94 u95 u96 u97 u98 u99 u100 u101 u102 u103 u104 u105 u106 u107 u108 u109 u110 u111 u112 u113 u114 u115 u116 u117 u118 u119 u120 u121 u122 u123 u124 u125 u126 u127 u128 u129 u130 u131 u132 u133 u134 u135 u136 u137 u138 u139 u140 u141 u142 u143 u144 u145 u146 u147 u148 u149 u150 u151 u152 u153 u154 u155 u156 u157 u158 u159 u160 u161 u162 u163 u164 u165 u166 u167 u168 u169 u170 u171 u172 u173 u174 u175 u176 u177 u178 u179 u180 u181 u182 u183 u184 u185 u186 u187 u188 u189 u190 u191 u192 u193 u194 u195 u196 u197 u198 u199 u200 u201 u202 u203 u204 u205 u206 u207 u208 u209 u210 u211 u212 u213 u214 u215 u216 u217 u218 u219:Value} :
    Code.wp Tryz.prog (tlC 11 (Tryz.f149.body.getD .skip)) (bodyPost Tryz.prog Tryz.f149 fun e w' => e = .returned (.tuple #[])∧∃ d',SWK encJ 2 w0 blk off d' w'∧MG key d a b d'∧Srt key d' a b) ⟨List.toArray ((.slice (some ⟨blk,off,none⟩) d0.size cap:Value) :: (.int .i64 a:Value) :: (.int .i64 m:Value) :: (.int .i64 b:Value) :: (.func (.func g) #[] #[]:Value) :: u5 :: u6 :: u7 :: u8 :: u9 :: u10 :: u11 :: u12 :: u13 :: u14 :: u15 :: u16 :: u17 :: (.int .i64 q:Value) :: u19 :: (.int .i64 i:Value) :: u21 :: u22 :: u23 :: (.int .i64 e:Value) :: u25 :: u26 :: u27 :: u28 :: u29 :: u30 :: u31 :: u32 :: u33 :: u34 :: u35 :: u36 :: u37 :: u38 :: u39 :: u40 :: u41 :: u42 :: u43 :: u44 :: u45 :: u46 :: u47 :: u48 :: u49 :: u50 :: u51 :: u52 :: u53 :: u54 :: u55 :: u56 :: u57 :: u58 :: u59 :: u60 :: u61 :: u62 :: u63 :: u64 :: u65 :: u66 :: u67 :: u68 :: u69 :: u70 :: u71 :: u72 :: u73 :: u74 :: u75 :: u76 :: u77 :: u78 :: u79 :: u80 :: u81 :: u82 :: u83 :: u84 :: u85 :: u86 :: u87 :: u88 :: u89 :: u90 :: u91 :: u92 :: u93 :: u94 :: u95 :: u96 :: u97 :: u98 :: u99 :: u100 :: u101 :: u102 :: u103 :: u104 :: u105 :: u106 :: u107 :: u108 :: u109 :: u110 :: u111 :: u112 :: u113 :: u114 :: u115 :: u116 :: u117 :: u118 :: u119 :: u120 :: u121 :: u122 :: u123 :: u124 :: u125 :: u126 :: u127 :: u128 :: u129 :: u130 :: u131 :: u132 :: u133 :: u134 :: u135 :: u136 :: u137 :: u138 :: u139 :: u140 :: u141 :: u142 :: u143 :: u144 :: u145 :: u146 :: u147 :: u148 :: u149 :: u150 :: u151 :: u152 :: u153 :: u154 :: u155 :: u156 :: u157 :: u158 :: u159 :: u160 :: u161 :: u162 :: u163 :: u164 :: u165 :: u166 :: u167 :: u168 :: u169 :: u170 :: u171 :: u172 :: u173 :: u174 :: u175 :: u176 :: u177 :: u178 :: u179 :: u180 :: u181 :: u182 :: u183 :: u184 :: u185 :: u186 :: u187 :: u188 :: u189 :: u190 :: u191 :: u192 :: u193 :: u194 :: u195 :: u196 :: u197 :: u198 :: u199 :: u200 :: u201 :: u202 :: u203 :: u204 :: u205 :: u206 :: u207 :: u208 :: u209 :: u210 :: u211 :: u212 :: u213 :: u214 :: u215 :: u216 :: u217 :: u218 :: u219 :: []),[]⟩ w:=by
  have mixed:Tryz.prog.follows .mixedOrders=true:=by kernel_rfl
  have IH:=YtcgbgifbajdhpaaGreatDoorW.PrintWords.Aside0.mk hIH
  have SA:=YtcgbgifbajdhpaaGreatDoorW.PrintWords.Aside0.mk hA
  have SB:=YtcgbgifbajdhpaaGreatDoorW.PrintWords.Aside0.mk hB
  have HLL:=YtcgbgifbajdhpaaGreatDoorW.PrintWords.Aside0.mk hL
  have HRR:=YtcgbgifbajdhpaaGreatDoorW.PrintWords.Aside0.mk hR
  clear hIH hA hB hL hR
  have T3:Aside (SWK encJ 2 w0 blk off d2 w):=S
  have HP1:=YtcgbgifbajdhpaaGreatDoorW.PrintWords.Aside0.mk hp1
  have K2:=YtcgbgifbajdhpaaGreatDoorW.PrintWords.Aside0.mk k2
  have S2:=YtcgbgifbajdhpaaGreatDoorW.PrintWords.Aside0.mk s2
  have HD2:=YtcgbgifbajdhpaaGreatDoorW.PrintWords.Aside0.mk (And.intro t1 t2)
  clear hp1 k2 s2 t1 t2 S
  conv => arg 2;whnf
  go_upto_region 43 with (fail)
  rename_i hK
  go_cut [213] (fun v wx => ∃ bv:Bool,v = .bool bv∧YtcgbgifbajdhpaaGreatDoorW.PrintWords.Aside0 (bv=decide ((q<e)∧(e<b)))∧YtcgbgifbajdhpaaGreatDoorW.PrintWords.Aside0 (wx=w))
  case first =>
    by_cases g1:q<e
    · have g1z:(q:Int)<(e:Int):=by omega
      by_cases g2:e<b
      · have g2z:(e:Int)<(b:Int):=by omega
        go_wp2_with fail
        go_meet
        exact ⟨true,rfl,⟨(decide_eq_true ⟨g1,g2⟩).symm⟩,⟨rfl⟩⟩
      · have g2z:¬ (e:Int)<(b:Int):=by omega
        go_wp2_with fail
        go_meet
        exact ⟨false,rfl,⟨(decide_eq_false (fun h => g2 h.2)).symm⟩,⟨rfl⟩⟩
    · have g1z:¬ (q:Int)<(e:Int):=by omega
      go_wp2_with fail
      go_meet
      exact ⟨false,rfl,⟨(decide_eq_false (fun h => g1 h.1)).symm⟩,⟨rfl⟩⟩
  case rest =>
    obtain ⟨bv,rfl,hbv,hw1⟩:=hcut
    have T4:Aside (SWK encJ 2 w0 blk off d2 wc):=by rw [hw1.out];exact T3
    clear T3 hw1
    cases bv
    rotate_left
    · have hr:q<e∧e<b:=of_decide_eq_true hbv.out.symm
      have HR0:=YtcgbgifbajdhpaaGreatDoorW.PrintWords.Aside0.mk (IH.out q e b d2 wc (by omega) (K2.out.1.trans hz1) T4.out hr.1 hr.2 (by omega) HD2.out.1 HD2.out.2)
      clear hr
      go_wp2_with (first | (go_at_call 149;refine HR0.out.mono ?_;rintro _ w1 ⟨rfl,d3,hS,hp1⟩;have T5:Aside (SWK encJ 2 w0 blk off d3 w1):=hS;have HP3:=YtcgbgifbajdhpaaGreatDoorW.PrintWords.Aside0.mk hp1;clear hS hp1))
      go_end0
      have hf:=merge_done (key:=key) (d:=d) (d1:=d1) (d2:=d2) (d3:=d3) (a:=a) (s:=i) (m:=m) (e:=e) (b:=b) (q:=q) (by omega) hs0i him e3 e4 (by omega) SA.out SB.out (by omega) HP1.out HLL.out HRR.out K2.out S2.out HP3.out.1 HP3.out.2
      exact ⟨rfl,d3,T5.out,hf.1,hf.2⟩
    · have hr:¬ (q<e∧e<b):=of_decide_eq_false hbv.out.symm
      have HQ3:=YtcgbgifbajdhpaaGreatDoorW.PrintWords.Aside0.mk (show Srt key d2 q b from by
        by_cases hqe:q<e
        · have:b=e:=by omega
          subst this
          exact HD2.out.1
        · have:q=e:=by omega
          subst this
          exact HD2.out.2)
      clear hr
      go_wp2
      go_end0
      have hf:=merge_done (key:=key) (d:=d) (d1:=d1) (d2:=d2) (d3:=d2) (a:=a) (s:=i) (m:=m) (e:=e) (b:=b) (q:=q) (by omega) hs0i him e3 e4 (by omega) SA.out SB.out (by omega) HP1.out HLL.out HRR.out K2.out S2.out (MG.refl _ _ _) HQ3.out
      exact ⟨rfl,d2,T4.out,hf.1,hf.2⟩
theorem symMerge.t41 (g:Nat) (cf:S70→S70→Int) (key:S70→Int) (blk off cap:Nat) (d0:Array S70) (w0:World) (R:RowK encJ 2 w0 blk off d0) (hsz:d0.size<4611686018427387904) (n:Nat) (hIH:SymAt g cf key blk off cap d0 w0 n)
    (a m b q i e:Nat) (d:Array S70) (w:World) (hn:b - a≤n+1) (hs:d.size=d0.size) (hm:m<b) (hb:b≤d0.size) (q1:2*q≤a+b) (q2:a+b≤2*q+1) (hs0i:a≤i) (him:i≤m) (E1:e+i=q+m) (e3:m≤e) (e4:e≤b) (e5:i≤q) (e6:q≤e) (hA:Srt key d a m) (hB:Srt key d m b) (hL:a<i→e<b→key d[i - 1]! ≤ key d[e]!) (hR:i<m→m<e→key d[e - 1]! < key d[i]!) (d1:Array S70) (hz1:d1.size=d0.size) (hp1:∀ t,d1[t]! = d[rho i m e t]!) (S:SWK encJ 2 w0 blk off d1 w)
    {u5 u6 u7 u8 u9 u10 u11 u12 u13 u14 u15 u16 u17 u19 u21 u22 u23 u25 u26 u27 u28 u29 u30 u31 u32 u33 u34 u35 u36 u37 u38 u39 u40 u41 u42 u43 u44 u45 u46 u47 u48 u49 u50 u51 u52 u53 u54 u55 u56 u57 u58 u59 u60 u61 u62 u63 u64 u65 u66 u67 u68 u69 u70 u71 u72 u73 u74 u75 u76 u77 u78 u79 u80 u81 u82 u83 u84 u85 u86 u87 u88 u89 u90 u91 u92 u93 u94 u95 u96 u97 u98 u99 u100 u101 u102 u103 u104 u105 u106 u107 u108 u109 u110 u111 u112 u113 u114 u115 u116 u117 u118 u119 u120 u121 u122 u123 u124 u125 u126 u127 u128 u129 u130 u131 u132 u133 u134 u135 u136 u137 u138 u139 u140 u141 u142 u143 u144 u145 u146 u147 u148 u149 u150 u151 u152 u153 u154 u155 u156 u157 u158 u159 u160 u161 u162 u163 u164 u165 u166 u167 u168 u169 u170 u171 u172 u173 u174 u175 u176 u177 u178 u179 u180 u181 u182 u183 u184 u185 u186 u187 u188 u189 u190 u191 u192 u193 u194 u195 u196 u197 u198 u199 u200 u201 u202 u203 u204 u205 u206 u207 u208 u209 u210 u211 u212 u213 u214 u215 u216 u217 u218 u219:Value} :
    Code.wp Tryz.prog (tlC 10 (Tryz.f149.body.getD .skip)) (bodyPost Tryz.prog Tryz.f149 fun e w' => e = .returned (.tuple #[])∧∃ d',SWK encJ 2 w0 blk off d' w'∧MG key d a b d'∧Srt key d' a b) ⟨List.toArray ((.slice (some ⟨blk,off,none⟩) d0.size cap:Value) :: (.int .i64 a:Value) :: (.int .i64 m:Value) :: (.int .i64 b:Value) :: (.func (.func g) #[] #[]:Value) :: u5 :: u6 :: u7 :: u8 :: u9 :: u10 :: u11 :: u12 :: u13 :: u14 :: u15 :: u16 :: u17 :: (.int .i64 q:Value) :: u19 :: (.int .i64 i:Value) :: u21 :: u22 :: u23 :: (.int .i64 e:Value) :: u25 :: u26 :: u27 :: u28 :: u29 :: u30 :: u31 :: u32 :: u33 :: u34 :: u35 :: u36 :: u37 :: u38 :: u39 :: u40 :: u41 :: u42 :: u43 :: u44 :: u45 :: u46 :: u47 :: u48 :: u49 :: u50 :: u51 :: u52 :: u53 :: u54 :: u55 :: u56 :: u57 :: u58 :: u59 :: u60 :: u61 :: u62 :: u63 :: u64 :: u65 :: u66 :: u67 :: u68 :: u69 :: u70 :: u71 :: u72 :: u73 :: u74 :: u75 :: u76 :: u77 :: u78 :: u79 :: u80 :: u81 :: u82 :: u83 :: u84 :: u85 :: u86 :: u87 :: u88 :: u89 :: u90 :: u91 :: u92 :: u93 :: u94 :: u95 :: u96 :: u97 :: u98 :: u99 :: u100 :: u101 :: u102 :: u103 :: u104 :: u105 :: u106 :: u107 :: u108 :: u109 :: u110 :: u111 :: u112 :: u113 :: u114 :: u115 :: u116 :: u117 :: u118 :: u119 :: u120 :: u121 :: u122 :: u123 :: u124 :: u125 :: u126 :: u127 :: u128 :: u129 :: u130 :: u131 :: u132 :: u133 :: u134 :: u135 :: u136 :: u137 :: u138 :: u139 :: u140 :: u141 :: u142 :: u143 :: u144 :: u145 :: u146 :: u147 :: u148 :: u149 :: u150 :: u151 :: u152 :: u153 :: u154 :: u155 :: u156 :: u157 :: u158 :: u159 :: u160 :: u161 :: u162 :: u163 :: u164 :: u165 :: u166 :: u167 :: u168 :: u169 :: u170 :: u171 :: u172 :: u173 :: u174 :: u175 :: u176 :: u177 :: u178 :: u179 :: u180 :: u181 :: u182 :: u183 :: u184 :: u185 :: u186 :: u187 :: u188 :: u189 :: u190 :: u191 :: u192 :: u193 :: u194 :: u195 :: u196 :: u197 :: u198 :: u199 :: u200 :: u201 :: u202 :: u203 :: u204 :: u205 :: u206 :: u207 :: u208 :: u209 :: u210 :: u211 :: u212 :: u213 :: u214 :: u215 :: u216 :: u217 :: u218 :: u219 :: []),[]⟩ w:=by
  have mixed:Tryz.prog.follows .mixedOrders=true:=by kernel_rfl
  have IH:=YtcgbgifbajdhpaaGreatDoorW.PrintWords.Aside0.mk hIH
  have SA:=YtcgbgifbajdhpaaGreatDoorW.PrintWords.Aside0.mk hA
  have SB:=YtcgbgifbajdhpaaGreatDoorW.PrintWords.Aside0.mk hB
  have HLL:=YtcgbgifbajdhpaaGreatDoorW.PrintWords.Aside0.mk hL
  have HRR:=YtcgbgifbajdhpaaGreatDoorW.PrintWords.Aside0.mk hR
  clear hIH hA hB hL hR
  have T1:Aside (SWK encJ 2 w0 blk off d1 w):=S
  have HP1:=YtcgbgifbajdhpaaGreatDoorW.PrintWords.Aside0.mk hp1
  clear hp1 S
  have HRS:=YtcgbgifbajdhpaaGreatDoorW.PrintWords.Aside0.mk (show (∀ x y,a≤x→x<y→y<i→key d1[x]! ≤ key d1[y]!)∧(∀ x y,i≤x→x<y→y<q→key d1[x]! ≤ key d1[y]!)∧(∀ x y,q≤x→x<y→y<e→key d1[x]! ≤ key d1[y]!)∧(∀ x y,e≤x→x<y→y<b→key d1[x]! ≤ key d1[y]!) from by
    refine ⟨fun x y x1 x2 x3 => ?_,fun x y x1 x2 x3 => ?_,fun x y x1 x2 x3 => ?_,fun x y x1 x2 x3 => ?_⟩
    · rw [HP1.out,HP1.out,show rho i m e x=x from by unfold rho;(repeat' split) <;> omega,show rho i m e y=y from by unfold rho;(repeat' split) <;> omega]
      exact SA.out _ _ x1 x2 (by omega)
    · rw [HP1.out,HP1.out,show rho i m e x=m+(x - i) from by unfold rho;(repeat' split) <;> omega,show rho i m e y=m+(y - i) from by unfold rho;(repeat' split) <;> omega]
      exact SB.out _ _ (by omega) (by omega) (by omega)
    · rw [HP1.out,HP1.out,show rho i m e x=x - (e - m) from by unfold rho;(repeat' split) <;> omega,show rho i m e y=y - (e - m) from by unfold rho;(repeat' split) <;> omega]
      exact SA.out _ _ (by omega) (by omega) (by omega)
    · rw [HP1.out,HP1.out,show rho i m e x=x from by unfold rho;(repeat' split) <;> omega,show rho i m e y=y from by unfold rho;(repeat' split) <;> omega]
      exact SB.out _ _ (by omega) (by omega) (by omega))
  conv => arg 2;whnf
  go_upto_region 41 with (fail)
  rename_i hK
  go_cut [199] (fun v wx => ∃ bv:Bool,v = .bool bv∧YtcgbgifbajdhpaaGreatDoorW.PrintWords.Aside0 (bv=decide ((a<i)∧(i<q)))∧YtcgbgifbajdhpaaGreatDoorW.PrintWords.Aside0 (wx=w))
  case first =>
    by_cases g1:a<i
    · have g1z:(a:Int)<(i:Int):=by omega
      by_cases g2:i<q
      · have g2z:(i:Int)<(q:Int):=by omega
        go_wp2_with fail
        go_meet
        exact ⟨true,rfl,⟨(decide_eq_true ⟨g1,g2⟩).symm⟩,⟨rfl⟩⟩
      · have g2z:¬ (i:Int)<(q:Int):=by omega
        go_wp2_with fail
        go_meet
        exact ⟨false,rfl,⟨(decide_eq_false (fun h => g2 h.2)).symm⟩,⟨rfl⟩⟩
    · have g1z:¬ (a:Int)<(i:Int):=by omega
      go_wp2_with fail
      go_meet
      exact ⟨false,rfl,⟨(decide_eq_false (fun h => g1 h.1)).symm⟩,⟨rfl⟩⟩
  case rest =>
    obtain ⟨bv,rfl,hbv,hw1⟩:=hcut
    have T2:Aside (SWK encJ 2 w0 blk off d1 wc):=by rw [hw1.out];exact T1
    clear T1 hw1
    generalize wc=wa2 at *
    go_upto_if 199 with (fail)
    rename_i hK2
    go_cut [] (fun wx => ∃ d2,Aside (SWK encJ 2 w0 blk off d2 wx)∧YtcgbgifbajdhpaaGreatDoorW.PrintWords.Aside0 (MG key d1 a q d2∧Srt key d2 a q))
    case first =>
      cases bv
      rotate_left
      · have hr:a<i∧i<q:=of_decide_eq_true hbv.out.symm
        have HR0:=YtcgbgifbajdhpaaGreatDoorW.PrintWords.Aside0.mk (IH.out a i q d1 wa2 (by omega) hz1 T2.out hr.1 hr.2 (by omega) HRS.out.1 HRS.out.2.1)
        clear hr
        go_wp2_with (first | (go_at_call 149;refine HR0.out.mono ?_;rintro _ w1 ⟨rfl,d2,hS,hp1⟩;have T3:Aside (SWK encJ 2 w0 blk off d2 w1):=hS;have HP2:=YtcgbgifbajdhpaaGreatDoorW.PrintWords.Aside0.mk hp1;clear hS hp1))
        go_meet
        exact ⟨d2,T3,HP2⟩
      · have hr:¬ (a<i∧i<q):=of_decide_eq_false hbv.out.symm
        have HN:=YtcgbgifbajdhpaaGreatDoorW.PrintWords.Aside0.mk hr
        clear hr
        go_wp2
        go_meet
        refine ⟨d1,T2,⟨MG.refl _ _ _,?_⟩⟩
        have hr:=HN.out
        by_cases hai2:a<i
        · have:q=i:=by omega
          subst this
          exact HRS.out.1
        · have:a=i:=by omega
          subst this
          exact HRS.out.2.1
    case rest =>
      obtain ⟨d2,T3,HP2⟩:=hcut
      refine hK2 _ _ ?_
      exact symMerge.t43 g cf key blk off cap d0 w0 R hsz n IH.out a m b q i e d _ hn hs hm hb q1 q2 hs0i him E1 e3 e4 e5 e6 SA.out SB.out HLL.out HRR.out d1 d2 hz1 HP1.out HP2.out.1 HP2.out.2
        (fun x y x1 x2 x3 => by rw [HP2.out.1.2.1 x (.inr x1),HP2.out.1.2.1 y (.inr (by omega))];exact HRS.out.2.2.1 x y x1 x2 x3) (fun x y x1 x2 x3 => by rw [HP2.out.1.2.1 x (.inr (by omega)),HP2.out.1.2.1 y (.inr (by omega))];exact HRS.out.2.2.2 x y x1 x2 x3) T3.out
theorem symMerge.t39 (g:Nat) (cf:S70→S70→Int) (key:S70→Int) (blk off cap:Nat) (d0:Array S70) (w0:World) (R:RowK encJ 2 w0 blk off d0) (hsz:d0.size<4611686018427387904) (n:Nat) (hIH:SymAt g cf key blk off cap d0 w0 n)
    (a m b q i e:Nat) (d:Array S70) (w:World) (hn:b - a≤n+1) (hs:d.size=d0.size) (S:SWK encJ 2 w0 blk off d w) (hm:m<b) (hb:b≤d0.size) (q1:2*q≤a+b) (q2:a+b≤2*q+1) (hs0i:a≤i) (him:i≤m) (E1:e+i=q+m) (e3:m≤e) (e4:e≤b) (e5:i≤q) (e6:q≤e) (hA:Srt key d a m) (hB:Srt key d m b) (hL:a<i→e<b→key d[i - 1]! ≤ key d[e]!) (hR:i<m→m<e→key d[e - 1]! < key d[i]!)
    {u5 u6 u7 u8 u9 u10 u11 u12 u13 u14 u15 u16 u17 u19 u21 u22 u23 u25 u26 u27 u28 u29 u30 u31 u32 u33 u34 u35 u36 u37 u38 u39 u40 u41 u42 u43 u44 u45 u46 u47 u48 u49 u50 u51 u52 u53 u54 u55 u56 u57 u58 u59 u60 u61 u62 u63 u64 u65 u66 u67 u68 u69 u70 u71 u72 u73 u74 u75 u76 u77 u78 u79 u80 u81 u82 u83 u84 u85 u86 u87 u88 u89 u90 u91 u92 u93 u94 u95 u96 u97 u98 u99 u100 u101 u102 u103 u104 u105 u106 u107 u108 u109 u110 u111 u112 u113 u114 u115 u116 u117 u118 u119 u120 u121 u122 u123 u124 u125 u126 u127 u128 u129 u130 u131 u132 u133 u134 u135 u136 u137 u138 u139 u140 u141 u142 u143 u144 u145 u146 u147 u148 u149 u150 u151 u152 u153 u154 u155 u156 u157 u158 u159 u160 u161 u162 u163 u164 u165 u166 u167 u168 u169 u170 u171 u172 u173 u174 u175 u176 u177 u178 u179 u180 u181 u182 u183 u184 u185 u186 u187 u188 u189 u190 u191 u192 u193 u194 u195 u196 u197 u198 u199 u200 u201 u202 u203 u204 u205 u206 u207 u208 u209 u210 u211 u212 u213 u214 u215 u216 u217 u218 u219:Value} :
    Code.wp Tryz.prog (tlC 9 (Tryz.f149.body.getD .skip)) (bodyPost Tryz.prog Tryz.f149 fun e w' => e = .returned (.tuple #[])∧∃ d',SWK encJ 2 w0 blk off d' w'∧MG key d a b d'∧Srt key d' a b) ⟨List.toArray ((.slice (some ⟨blk,off,none⟩) d0.size cap:Value) :: (.int .i64 a:Value) :: (.int .i64 m:Value) :: (.int .i64 b:Value) :: (.func (.func g) #[] #[]:Value) :: u5 :: u6 :: u7 :: u8 :: u9 :: u10 :: u11 :: u12 :: u13 :: u14 :: u15 :: u16 :: u17 :: (.int .i64 q:Value) :: u19 :: (.int .i64 i:Value) :: u21 :: u22 :: u23 :: (.int .i64 e:Value) :: u25 :: u26 :: u27 :: u28 :: u29 :: u30 :: u31 :: u32 :: u33 :: u34 :: u35 :: u36 :: u37 :: u38 :: u39 :: u40 :: u41 :: u42 :: u43 :: u44 :: u45 :: u46 :: u47 :: u48 :: u49 :: u50 :: u51 :: u52 :: u53 :: u54 :: u55 :: u56 :: u57 :: u58 :: u59 :: u60 :: u61 :: u62 :: u63 :: u64 :: u65 :: u66 :: u67 :: u68 :: u69 :: u70 :: u71 :: u72 :: u73 :: u74 :: u75 :: u76 :: u77 :: u78 :: u79 :: u80 :: u81 :: u82 :: u83 :: u84 :: u85 :: u86 :: u87 :: u88 :: u89 :: u90 :: u91 :: u92 :: u93 :: u94 :: u95 :: u96 :: u97 :: u98 :: u99 :: u100 :: u101 :: u102 :: u103 :: u104 :: u105 :: u106 :: u107 :: u108 :: u109 :: u110 :: u111 :: u112 :: u113 :: u114 :: u115 :: u116 :: u117 :: u118 :: u119 :: u120 :: u121 :: u122 :: u123 :: u124 :: u125 :: u126 :: u127 :: u128 :: u129 :: u130 :: u131 :: u132 :: u133 :: u134 :: u135 :: u136 :: u137 :: u138 :: u139 :: u140 :: u141 :: u142 :: u143 :: u144 :: u145 :: u146 :: u147 :: u148 :: u149 :: u150 :: u151 :: u152 :: u153 :: u154 :: u155 :: u156 :: u157 :: u158 :: u159 :: u160 :: u161 :: u162 :: u163 :: u164 :: u165 :: u166 :: u167 :: u168 :: u169 :: u170 :: u171 :: u172 :: u173 :: u174 :: u175 :: u176 :: u177 :: u178 :: u179 :: u180 :: u181 :: u182 :: u183 :: u184 :: u185 :: u186 :: u187 :: u188 :: u189 :: u190 :: u191 :: u192 :: u193 :: u194 :: u195 :: u196 :: u197 :: u198 :: u199 :: u200 :: u201 :: u202 :: u203 :: u204 :: u205 :: u206 :: u207 :: u208 :: u209 :: u210 :: u211 :: u212 :: u213 :: u214 :: u215 :: u216 :: u217 :: u218 :: u219 :: []),[]⟩ w:=by
  have mixed:Tryz.prog.follows .mixedOrders=true:=by kernel_rfl
  have IH:=YtcgbgifbajdhpaaGreatDoorW.PrintWords.Aside0.mk hIH
  have SA:=YtcgbgifbajdhpaaGreatDoorW.PrintWords.Aside0.mk hA
  have SB:=YtcgbgifbajdhpaaGreatDoorW.PrintWords.Aside0.mk hB
  have HLL:=YtcgbgifbajdhpaaGreatDoorW.PrintWords.Aside0.mk hL
  have HRR:=YtcgbgifbajdhpaaGreatDoorW.PrintWords.Aside0.mk hR
  clear hIH hA hB hL hR
  have T0:Aside (SWK encJ 2 w0 blk off d w):=S
  clear S
  conv => arg 2;whnf
  go_upto_region 39 with (fail)
  rename_i hK
  go_cut [185] (fun v wx => ∃ bv:Bool,v = .bool bv∧YtcgbgifbajdhpaaGreatDoorW.PrintWords.Aside0 (bv=decide ((i<m)∧(m<e)))∧YtcgbgifbajdhpaaGreatDoorW.PrintWords.Aside0 (wx=w))
  case first =>
    by_cases g1:i<m
    · have g1z:(i:Int)<(m:Int):=by omega
      by_cases g2:m<e
      · have g2z:(m:Int)<(e:Int):=by omega
        go_wp2_with fail
        go_meet
        exact ⟨true,rfl,⟨(decide_eq_true ⟨g1,g2⟩).symm⟩,⟨rfl⟩⟩
      · have g2z:¬ (m:Int)<(e:Int):=by omega
        go_wp2_with fail
        go_meet
        exact ⟨false,rfl,⟨(decide_eq_false (fun h => g2 h.2)).symm⟩,⟨rfl⟩⟩
    · have g1z:¬ (i:Int)<(m:Int):=by omega
      go_wp2_with fail
      go_meet
      exact ⟨false,rfl,⟨(decide_eq_false (fun h => g1 h.1)).symm⟩,⟨rfl⟩⟩
  case rest =>
    obtain ⟨bv,rfl,hbv,hw1⟩:=hcut
    have T1:Aside (SWK encJ 2 w0 blk off d wc):=by rw [hw1.out];exact T0
    clear T0 hw1
    generalize wc=wa at *
    go_upto_if 185 with (fail)
    rename_i hK2
    go_cut [] (fun wx => ∃ d1,Aside (SWK encJ 2 w0 blk off d1 wx)∧d1.size=d0.size∧YtcgbgifbajdhpaaGreatDoorW.PrintWords.Aside0 (∀ t,d1[t]! = d[rho i m e t]!))
    case first =>
      cases bv
      rotate_left
      · have hr:i<m∧m<e:=of_decide_eq_true hbv.out.symm
        have hr0:=rotate.calls g blk off cap i m e d0 d w0 wa R hs.symm T1.out hr.1 hr.2 (by omega) (by omega)
        rw [hs] at hr0
        have HR0:=YtcgbgifbajdhpaaGreatDoorW.PrintWords.Aside0.mk hr0
        clear hr0 hr
        go_wp2_with (first | (go_at_call 155;refine HR0.out.mono ?_;rintro _ w1 ⟨rfl,d1,hS,hz1,hp1⟩;have T2:Aside (SWK encJ 2 w0 blk off d1 w1):=hS;have HP1:=YtcgbgifbajdhpaaGreatDoorW.PrintWords.Aside0.mk hp1;clear hS hp1))
        go_meet
        exact ⟨d1,T2,hz1,HP1⟩
      · have hr:¬ (i<m∧m<e):=of_decide_eq_false hbv.out.symm
        have HN:=YtcgbgifbajdhpaaGreatDoorW.PrintWords.Aside0.mk hr
        clear hr
        go_wp2
        go_meet
        exact ⟨d,T1,hs,⟨fun t => by rw [rho_none i m e t him e3 (by have:=HN.out;omega)]⟩⟩
    case rest =>
      obtain ⟨d1,T2,hz1,HP1⟩:=hcut
      refine hK2 _ _ ?_
      exact symMerge.t41 g cf key blk off cap d0 w0 R hsz n IH.out a m b q i e d _ hn hs hm hb q1 q2 hs0i him E1 e3 e4 e5 e6 SA.out SB.out HLL.out HRR.out d1 hz1 HP1.out T2.out
theorem symMerge.hi (g:Nat) (cf:S70→S70→Int) (key:S70→Int) (hcf:∀ x y,cf x y<0↔key x<key y) (eg:∀ args w,(callFunc g args).run Tryz.prog w = .ok (.enter g args) w)
    (blk off cap:Nat) (d0:Array S70) (w0:World) (R:RowK encJ 2 w0 blk off d0) (hC:CmpLays Tryz.prog g #[] encJ 2 cf blk off d0.size w0) (hsz:d0.size<4611686018427387904) (n:Nat) (hIH:SymAt g cf key blk off cap d0 w0 n)
    (a m b:Nat) (d:Array S70) (w:World) (hn:b - a≤n+1) (hs:d.size=d0.size) (S:SWK encJ 2 w0 blk off d w) (h1:m ≠ a+1) (h2:b ≠ m+1) (ha:a<m) (hm:m<b) (hb:b≤d0.size) (hq:(a+b) / 2<m) (hA:Srt key d a m) (hB:Srt key d m b) :
    Calls Tryz.prog 149 #[.slice (some ⟨blk,off,none⟩) d0.size cap,.int .i64 a,.int .i64 m,.int .i64 b,.func (.func g) #[] #[]] w fun e w' => e = .returned (.tuple #[])∧∃ d',SWK encJ 2 w0 blk off d' w'∧MG key d a b d'∧Srt key d' a b:=by
  have mixed:Tryz.prog.follows .mixedOrders=true:=by kernel_rfl
  have S0:Aside (SWK encJ 2 w0 blk off d w):=S
  have HC:=YtcgbgifbajdhpaaGreatDoorW.PrintWords.Aside0.mk hC
  have HCF:=YtcgbgifbajdhpaaGreatDoorW.PrintWords.Aside0.mk hcf
  have SA:=YtcgbgifbajdhpaaGreatDoorW.PrintWords.Aside0.mk hA
  have SB:=YtcgbgifbajdhpaaGreatDoorW.PrintWords.Aside0.mk hB
  have IH:=YtcgbgifbajdhpaaGreatDoorW.PrintWords.Aside0.mk hIH
  clear S hC hcf hA hB hIH
  have h1z:¬ (m:Int) - (a:Int)=1:=by omega
  have h1b:((m:Int) - (a:Int) == 1)=false:=beq_eq_false_iff_ne.2 h1z
  have h2z:¬ (b:Int) - (m:Int)=1:=by omega
  have h2b:((b:Int) - (m:Int) == 1)=false:=beq_eq_false_iff_ne.2 h2z
  obtain ⟨q,hqd⟩:∃ q,q=(a+b) / 2:=⟨_,rfl⟩
  have Q:((a:Int)+(b:Int)) / 2=(q:Int):=by omega
  have q1:2*q≤a+b:=by omega
  have q2:a+b≤2*q+1:=by omega
  rw [← hqd] at hq
  clear hqd h1 h2
  obtain ⟨s0,hs0⟩:∃ s0,s0=q+m - b:=⟨_,rfl⟩
  have Z0:(q:Int)+(m:Int) - (b:Int)=(s0:Int):=by omega
  have Z1:s0+b=q+m:=by omega
  have Z2:(m:Int) > (q:Int):=by omega
  clear hs0
  go_enter Tryz.func149,Tryz.ntmps149
  go_wp2
  go_loopg [20,21] (q - s0) (fun kx s20 s21 wr => ∃ (i j:Nat),s20 = .int .i64 i∧s21 = .int .i64 j∧s0≤i∧i≤j∧j≤q∧j - i≤kx∧Aside (SWK encJ 2 w0 blk off d wr)∧Aside (s0<i→key d[i - 1]! ≤ key d[q+m - i]!)∧Aside (j<q→key d[q+m - 1 - j]! < key d[j]!))
  case atStart => exact ⟨s0,q,rfl,rfl,Nat.le_refl _,by omega,Nat.le_refl _,Nat.le_refl _,S0,(fun h => by omega),(fun h => by omega)⟩
  case round =>
    clear S0
    obtain ⟨i,j,rfl,rfl,hai,hij,hjb,hkx,S1,HL,HR⟩:=hrel
    by_cases hlt:i<j
    · have hltz:(i:Int)<(j:Int):=by omega
      obtain ⟨c,hcd⟩:∃ c,c=(i+j) / 2:=⟨_,rfl⟩
      have C:((i:Int)+(j:Int)) / 2=(c:Int):=by omega
      have c1':i≤c:=by omega
      have c2':c<j:=by omega
      clear hcd
      obtain ⟨pc,hpd⟩:∃ pc,pc=q+m - 1 - c:=⟨_,rfl⟩
      have PC:(q:Int)+(m:Int) - 1 - (c:Int)=(pc:Int):=by omega
      have pc1:pc<d0.size:=by omega
      have R1:IntKind.i64.wrap ((q:Int)+(m:Int) - 1 - (c:Int))=(pc:Int):=by rw [PC,IntKind.wrap_i64];omega
      have R2:IntKind.i64.wrap (pc:Int)=(pc:Int):=by rw [IntKind.wrap_i64];omega
      have pc2:(pc:Int)<(d0.size:Int):=by omega
      have cc2:(c:Int)<(d0.size:Int):=by omega
      have c0:=fun n' os' => (swk_gcell S1.out R hs pc (by omega) n' os').1
      have c1:=fun n' os' => (swk_gcell S1.out R hs pc (by omega) n' os').2
      have e0:=fun n' os' => (swk_gcell S1.out R hs c (by omega) n' os').1
      have e1:=fun n' os' => (swk_gcell S1.out R hs c (by omega) n' os').2
      have hc:=fun n' os' => swk_cmp S1.out HC.out hs d[pc]! d[c]! n' os'
      have HPD:=YtcgbgifbajdhpaaGreatDoorW.PrintWords.Aside0.mk hpd
      clear hpd
      cases hv:decide (cf d[pc]! d[c]! < 0) with
      | false =>
        have HX:=YtcgbgifbajdhpaaGreatDoorW.PrintWords.Aside0.mk (fun h => of_decide_eq_false hv ((HCF.out _ _).2 h))
        generalize d[pc]! = x at c0 c1 hc hv
        generalize d[c]! = y at e0 e1 hc hv
        go_wp2_with fail
        go_quiet_grown (first | (go_at_fn g;refine Calls.grown_of (hc _ _)))
        have S2:Aside (SWK encJ 2 w0 blk off d (grow (wr.drewN nq) osq)):=S1.out.grown nq osq
        clear c0 c1 e0 e1 hc S1
        generalize grow (wr.drewN nq) osq=w2 at S2 ⊢
        clear nq osq
        go_wp2
        go_roundg (j - (c+1))
        case measure => omega
        case rel => exact ⟨c+1,j,by go_num,rfl,by omega,by omega,hjb,Nat.le_refl _,S2,(fun _ => by rw [show c+1 - 1=c from rfl,show q+m - (c+1)=pc from by rw [HPD.out];omega];exact Int.not_lt.1 HX.out),HR⟩
      | true =>
        have HX:=YtcgbgifbajdhpaaGreatDoorW.PrintWords.Aside0.mk ((HCF.out _ _).1 (of_decide_eq_true hv))
        generalize d[pc]! = x at c0 c1 hc hv
        generalize d[c]! = y at e0 e1 hc hv
        go_wp2_with fail
        go_quiet_grown (first | (go_at_fn g;refine Calls.grown_of (hc _ _)))
        have S2:Aside (SWK encJ 2 w0 blk off d (grow (wr.drewN nq) osq)):=S1.out.grown nq osq
        clear c0 c1 e0 e1 hc S1
        generalize grow (wr.drewN nq) osq=w2 at S2 ⊢
        clear nq osq
        go_wp2
        go_roundg (c - i)
        case measure => omega
        case rel => exact ⟨i,c,rfl,rfl,hai,by omega,by omega,Nat.le_refl _,S2,HL,(fun _ => by rw [← HPD.out];exact HX.out)⟩
    · obtain rfl:i=j:=by omega
      have hltz:¬ (i:Int)<(i:Int):=by omega
      have hs0i:a≤i:=by omega
      have him:i≤m:=by omega
      obtain ⟨e,hed⟩:∃ e,e=q+m - i:=⟨_,rfl⟩
      have E:(q:Int)+(m:Int) - (i:Int)=(e:Int):=by omega
      have E1:e+i=q+m:=by omega
      have HL':a<i→e<b→key d[i - 1]! ≤ key d[e]! := fun h1 h2 => by rw [hed];exact HL.out (by omega)
      have HR':i<m→m<e→key d[e - 1]! < key d[i]! := fun h1 h2 => by rw [hed,show q+m - i - 1=q+m - 1 - i from by omega];exact HR.out (by omega)
      have HLL:=YtcgbgifbajdhpaaGreatDoorW.PrintWords.Aside0.mk HL'
      have HRR:=YtcgbgifbajdhpaaGreatDoorW.PrintWords.Aside0.mk HR'
      have e3:m≤e:=by omega
      have e4:e≤b:=by omega
      have e5:i≤q:=by omega
      have e6:q≤e:=by omega
      clear HL HR hed HL' HR'
      go_upto_region 38 with (fail)
      rename_i hK
      have HE:=YtcgbgifbajdhpaaGreatDoorW.PrintWords.Aside0.mk E
      go_cut [24] (fun v wx => v = .int .i64 (e:Int)∧YtcgbgifbajdhpaaGreatDoorW.PrintWords.Aside0 (wx=wr))
      case first =>
        go_wp2_with fail
        go_meet
        exact ⟨rfl,⟨rfl⟩⟩
      case rest =>
        obtain ⟨rfl,hw1⟩:=hcut
        have T0:SWK encJ 2 w0 blk off d wc:=by rw [hw1.out];exact S1
        refine hK _ _ ?_
        exact symMerge.t39 g cf key blk off cap d0 w0 R hsz n IH.out a m b q i e d wc hn hs T0 hm hb q1 q2 hs0i him E1 e3 e4 e5 e6 SA.out SB.out HLL.out HRR.out
theorem symMerge.lo (g:Nat) (cf:S70→S70→Int) (key:S70→Int) (hcf:∀ x y,cf x y<0↔key x<key y) (eg:∀ args w,(callFunc g args).run Tryz.prog w = .ok (.enter g args) w)
    (blk off cap:Nat) (d0:Array S70) (w0:World) (R:RowK encJ 2 w0 blk off d0) (hC:CmpLays Tryz.prog g #[] encJ 2 cf blk off d0.size w0) (hsz:d0.size<4611686018427387904) (n:Nat) (hIH:SymAt g cf key blk off cap d0 w0 n)
    (a m b:Nat) (d:Array S70) (w:World) (hn:b - a≤n+1) (hs:d.size=d0.size) (S:SWK encJ 2 w0 blk off d w) (h1:m ≠ a+1) (h2:b ≠ m+1) (ha:a<m) (hm:m<b) (hb:b≤d0.size) (hq:m≤(a+b) / 2) (hA:Srt key d a m) (hB:Srt key d m b) :
    Calls Tryz.prog 149 #[.slice (some ⟨blk,off,none⟩) d0.size cap,.int .i64 a,.int .i64 m,.int .i64 b,.func (.func g) #[] #[]] w fun e w' => e = .returned (.tuple #[])∧∃ d',SWK encJ 2 w0 blk off d' w'∧MG key d a b d'∧Srt key d' a b:=by
  have mixed:Tryz.prog.follows .mixedOrders=true:=by kernel_rfl
  have S0:Aside (SWK encJ 2 w0 blk off d w):=S
  have HC:=YtcgbgifbajdhpaaGreatDoorW.PrintWords.Aside0.mk hC
  have HCF:=YtcgbgifbajdhpaaGreatDoorW.PrintWords.Aside0.mk hcf
  have SA:=YtcgbgifbajdhpaaGreatDoorW.PrintWords.Aside0.mk hA
  have SB:=YtcgbgifbajdhpaaGreatDoorW.PrintWords.Aside0.mk hB
  have IH:=YtcgbgifbajdhpaaGreatDoorW.PrintWords.Aside0.mk hIH
  clear S hC hcf hA hB hIH
  have h1z:¬ (m:Int) - (a:Int)=1:=by omega
  have h1b:((m:Int) - (a:Int) == 1)=false:=beq_eq_false_iff_ne.2 h1z
  have h2z:¬ (b:Int) - (m:Int)=1:=by omega
  have h2b:((b:Int) - (m:Int) == 1)=false:=beq_eq_false_iff_ne.2 h2z
  obtain ⟨q,hqd⟩:∃ q,q=(a+b) / 2:=⟨_,rfl⟩
  have Q:((a:Int)+(b:Int)) / 2=(q:Int):=by omega
  have q1:2*q≤a+b:=by omega
  have q2:a+b≤2*q+1:=by omega
  rw [← hqd] at hq
  clear hqd h1 h2
  have Z2:¬ (m:Int) > (q:Int):=by omega
  go_enter Tryz.func149,Tryz.ntmps149
  go_wp2
  go_loopg [20,21] (m - a) (fun kx s20 s21 wr => ∃ (i j:Nat),s20 = .int .i64 i∧s21 = .int .i64 j∧a≤i∧i≤j∧j≤m∧j - i≤kx∧Aside (SWK encJ 2 w0 blk off d wr)∧Aside (a<i→key d[i - 1]! ≤ key d[q+m - i]!)∧Aside (j<m→key d[q+m - 1 - j]! < key d[j]!))
  case atStart => exact ⟨a,m,rfl,rfl,Nat.le_refl _,by omega,Nat.le_refl _,Nat.le_refl _,S0,(fun h => by omega),(fun h => by omega)⟩
  case round =>
    clear S0
    obtain ⟨i,j,rfl,rfl,hai,hij,hjb,hkx,S1,HL,HR⟩:=hrel
    by_cases hlt:i<j
    · have hltz:(i:Int)<(j:Int):=by omega
      obtain ⟨c,hcd⟩:∃ c,c=(i+j) / 2:=⟨_,rfl⟩
      have C:((i:Int)+(j:Int)) / 2=(c:Int):=by omega
      have c1':i≤c:=by omega
      have c2':c<j:=by omega
      clear hcd
      obtain ⟨pc,hpd⟩:∃ pc,pc=q+m - 1 - c:=⟨_,rfl⟩
      have PC:(q:Int)+(m:Int) - 1 - (c:Int)=(pc:Int):=by omega
      have pc1:pc<d0.size:=by omega
      have R1:IntKind.i64.wrap ((q:Int)+(m:Int) - 1 - (c:Int))=(pc:Int):=by rw [PC,IntKind.wrap_i64];omega
      have R2:IntKind.i64.wrap (pc:Int)=(pc:Int):=by rw [IntKind.wrap_i64];omega
      have pc2:(pc:Int)<(d0.size:Int):=by omega
      have cc2:(c:Int)<(d0.size:Int):=by omega
      have c0:=fun n' os' => (swk_gcell S1.out R hs pc (by omega) n' os').1
      have c1:=fun n' os' => (swk_gcell S1.out R hs pc (by omega) n' os').2
      have e0:=fun n' os' => (swk_gcell S1.out R hs c (by omega) n' os').1
      have e1:=fun n' os' => (swk_gcell S1.out R hs c (by omega) n' os').2
      have hc:=fun n' os' => swk_cmp S1.out HC.out hs d[pc]! d[c]! n' os'
      have HPD:=YtcgbgifbajdhpaaGreatDoorW.PrintWords.Aside0.mk hpd
      clear hpd
      cases hv:decide (cf d[pc]! d[c]! < 0) with
      | false =>
        have HX:=YtcgbgifbajdhpaaGreatDoorW.PrintWords.Aside0.mk (fun h => of_decide_eq_false hv ((HCF.out _ _).2 h))
        generalize d[pc]! = x at c0 c1 hc hv
        generalize d[c]! = y at e0 e1 hc hv
        go_wp2_with fail
        go_quiet_grown (first | (go_at_fn g;refine Calls.grown_of (hc _ _)))
        have S2:Aside (SWK encJ 2 w0 blk off d (grow (wr.drewN nq) osq)):=S1.out.grown nq osq
        clear c0 c1 e0 e1 hc S1
        generalize grow (wr.drewN nq) osq=w2 at S2 ⊢
        clear nq osq
        go_wp2
        go_roundg (j - (c+1))
        case measure => omega
        case rel => exact ⟨c+1,j,by go_num,rfl,by omega,by omega,hjb,Nat.le_refl _,S2,(fun _ => by rw [show c+1 - 1=c from rfl,show q+m - (c+1)=pc from by rw [HPD.out];omega];exact Int.not_lt.1 HX.out),HR⟩
      | true =>
        have HX:=YtcgbgifbajdhpaaGreatDoorW.PrintWords.Aside0.mk ((HCF.out _ _).1 (of_decide_eq_true hv))
        generalize d[pc]! = x at c0 c1 hc hv
        generalize d[c]! = y at e0 e1 hc hv
        go_wp2_with fail
        go_quiet_grown (first | (go_at_fn g;refine Calls.grown_of (hc _ _)))
        have S2:Aside (SWK encJ 2 w0 blk off d (grow (wr.drewN nq) osq)):=S1.out.grown nq osq
        clear c0 c1 e0 e1 hc S1
        generalize grow (wr.drewN nq) osq=w2 at S2 ⊢
        clear nq osq
        go_wp2
        go_roundg (c - i)
        case measure => omega
        case rel => exact ⟨i,c,rfl,rfl,hai,by omega,by omega,Nat.le_refl _,S2,HL,(fun _ => by rw [← HPD.out];exact HX.out)⟩
    · obtain rfl:i=j:=by omega
      have hltz:¬ (i:Int)<(i:Int):=by omega
      have hs0i:a≤i:=by omega
      have him:i≤m:=by omega
      obtain ⟨e,hed⟩:∃ e,e=q+m - i:=⟨_,rfl⟩
      have E:(q:Int)+(m:Int) - (i:Int)=(e:Int):=by omega
      have E1:e+i=q+m:=by omega
      have HL':a<i→e<b→key d[i - 1]! ≤ key d[e]! := fun h1 h2 => by rw [hed];exact HL.out (by omega)
      have HR':i<m→m<e→key d[e - 1]! < key d[i]! := fun h1 h2 => by rw [hed,show q+m - i - 1=q+m - 1 - i from by omega];exact HR.out (by omega)
      have HLL:=YtcgbgifbajdhpaaGreatDoorW.PrintWords.Aside0.mk HL'
      have HRR:=YtcgbgifbajdhpaaGreatDoorW.PrintWords.Aside0.mk HR'
      have e3:m≤e:=by omega
      have e4:e≤b:=by omega
      have e5:i≤q:=by omega
      have e6:q≤e:=by omega
      clear HL HR hed HL' HR'
      go_upto_region 38 with (fail)
      rename_i hK
      have HE:=YtcgbgifbajdhpaaGreatDoorW.PrintWords.Aside0.mk E
      go_cut [24] (fun v wx => v = .int .i64 (e:Int)∧YtcgbgifbajdhpaaGreatDoorW.PrintWords.Aside0 (wx=wr))
      case first =>
        go_wp2_with fail
        go_meet
        exact ⟨rfl,⟨rfl⟩⟩
      case rest =>
        obtain ⟨rfl,hw1⟩:=hcut
        have T0:SWK encJ 2 w0 blk off d wc:=by rw [hw1.out];exact S1
        refine hK _ _ ?_
        exact symMerge.t39 g cf key blk off cap d0 w0 R hsz n IH.out a m b q i e d wc hn hs T0 hm hb q1 q2 hs0i him E1 e3 e4 e5 e6 SA.out SB.out HLL.out HRR.out
theorem symMerge.step (g:Nat) (cf:S70→S70→Int) (key:S70→Int) (hcf:∀ x y,cf x y<0↔key x<key y) (eg:∀ args w,(callFunc g args).run Tryz.prog w = .ok (.enter g args) w)
    (blk off cap:Nat) (d0:Array S70) (w0:World) (R:RowK encJ 2 w0 blk off d0) (hC:CmpLays Tryz.prog g #[] encJ 2 cf blk off d0.size w0) (hsz:d0.size<4611686018427387904) (n:Nat) (hIH:SymAt g cf key blk off cap d0 w0 n):SymAt g cf key blk off cap d0 w0 (n+1):=by
  intro a m b d w hn hs S ha hm hb hA hB
  by_cases h1:m=a+1
  · exact symMerge.left g cf key hcf eg blk off cap d0 w0 R hC hsz a m b d w h1 hs S (by omega) hb (by rw [← h1];exact hB)
  · by_cases h2:b=m+1
    · exact symMerge.right g cf key hcf eg blk off cap d0 w0 R hC hsz a m b d w h2 hs S h1 ha hb hA
    · by_cases hq:(a+b) / 2<m
      · exact symMerge.hi g cf key hcf eg blk off cap d0 w0 R hC hsz n hIH a m b d w hn hs S h1 h2 ha hm hb hq hA hB
      · exact symMerge.lo g cf key hcf eg blk off cap d0 w0 R hC hsz n hIH a m b d w hn hs S h1 h2 ha hm hb (by omega) hA hB
theorem symMerge.calls (g:Nat) (cf:S70→S70→Int) (key:S70→Int) (hcf:∀ x y,cf x y<0↔key x<key y) (eg:∀ args w,(callFunc g args).run Tryz.prog w = .ok (.enter g args) w)
    (blk off cap:Nat) (d0:Array S70) (w0:World) (R:RowK encJ 2 w0 blk off d0) (hC:CmpLays Tryz.prog g #[] encJ 2 cf blk off d0.size w0) (hsz:d0.size<4611686018427387904):∀ n,SymAt g cf key blk off cap d0 w0 n
  | 0 => fun a m b d w hn hs S ha hm hb hA hB => by omega
  | n+1 => symMerge.step g cf key hcf eg blk off cap d0 w0 R hC hsz n (symMerge.calls g cf key hcf eg blk off cap d0 w0 R hC hsz n)
end Go.Proofs.YtcgbgifbajdhpaaGreatDoor.PA
namespace Go.Proofs
open Go.Shelf Go.RowKit Go.Lib Go.Sort
def Tryz.insSort_ren:Go.Shelf.Ren:=⟨fun | 20 => 148 | n => n,fun | 24 => 70 | 22 => 49 | 3 => 3 | 25 => 160 | 4 => 4 | 0 => 0 | n => n,fun | n => n⟩
theorem Tryz.insSort:Go.Proofs.SlLaysF0.n20 Tryz.prog Tryz.insSort_ren:={
  mixed:=by kernel_rfl
  f20:=⟨Tryz.f148.name,by decide,Tryz.func148.trans (congrArg some (by kernel_rfl))⟩
  t0:=Tryz.underlying0
  a0:=Tryz.isAgg0
  z0:=Tryz.sizeOf0
  v0:=Tryz.zeroValue0
  t3:=Tryz.underlying3
  a3:=Tryz.isAgg3
  z3:=Tryz.sizeOf3
  v3:=Tryz.zeroValue3
  t4:=Tryz.underlying4
  a4:=Tryz.isAgg4
  z4:=Tryz.sizeOf4
  v4:=Tryz.zeroValue4
  t22:=Tryz.underlying49
  a22:=Tryz.isAgg49
  z22:=Tryz.sizeOf49
  v22:=Tryz.zeroValue49
  t25:=Tryz.underlying160
  a25:=Tryz.isAgg160
  z25:=Tryz.sizeOf160
  v25:=Tryz.zeroValue160 }
end Go.Proofs
namespace Go.Proofs.YtcgbgifbajdhpaaGreatDoor.PA
open Go.Shelf Go.RowKit Go.Lib Go.Sort
theorem isAggP:∀ w,(isAgg 70).run Tryz.prog w = .ok true w:=fun w => by kernel_rfl
theorem sizeOfP:∀ w,(Go.sizeOf 70).run Tryz.prog w = .ok 2 w:=fun w => by kernel_rfl
theorem dvd_gap {c s a:Nat} (h1:c ∣ s) (h2:c ∣ a) (h:s<a):s+c≤a:=by
  have:=Nat.le_of_dvd (by omega) (Nat.dvd_sub h2 h1)
  omega
section
variable {α:Type} [Inhabited α] {key:α→Int}
def BlkF (key:α→Int) (d:Array α) (c n lo:Nat):Prop:=∀ s,c ∣ s→lo≤s→Srt key d s (min (s+c) n)
def BlkD (key:α→Int) (d:Array α) (c hi:Nat):Prop:=∀ s,c ∣ s→s<hi→Srt key d s (s+c)
theorem Srt.keep {d d':Array α} {a b x y:Nat} (h:Srt key d x y) (hm:MG key d a b d') (ho:y≤a∨b≤x):Srt key d' x y:=fun i j h1 h2 h3 => by
  rw [hm.2.1 i (by omega),hm.2.1 j (by omega)]
  exact h i j h1 h2 h3
theorem Srt.sub {d:Array α} {x y x' y':Nat} (h:Srt key d x y) (h1:x≤x') (h2:y'≤y):Srt key d x' y':=fun i j a b c => h i j (by omega) b (by omega)
theorem BlkD.step {d d':Array α} {c a:Nat} (h:BlkD key d c a) (ha:c ∣ a) (hm:MG key d a (a+c) d') (hs:Srt key d' a (a+c)):BlkD key d' c (a+c):=fun s h1 h2 => by
  rcases Nat.lt_trichotomy s a with h3 | rfl | h3
  · exact (h s h1 h3).keep hm (.inl (dvd_gap h1 ha h3))
  · exact hs
  · have:=dvd_gap ha h1 h3
    omega
theorem BlkF.step {d d':Array α} {c n a e:Nat} (h:BlkF key d c n a) (hm:MG key d a e d') (he:a≤e):BlkF key d' c n e:=fun s h1 h2 => (h s h1 (by omega)).keep hm (.inr (by omega))
theorem Blk.first {d d':Array α} {c n a:Nat} (hc:0<c) (h:BlkD key d c a) (ha:c ∣ a) (h1:a≤n) (h2:n<a+c) (hm:MG key d a n d') (hs:Srt key d' a n):BlkF key d' c n 0:=fun s h3 _ => by
  rcases Nat.lt_trichotomy s a with h4 | rfl | h4
  · have:=dvd_gap h3 ha h4
    exact ((h s h3 h4).keep hm (.inl this)).sub (Nat.le_refl _) (by omega)
  · exact hs.sub (Nat.le_refl _) (by omega)
  · have:=dvd_gap ha h3 h4
    exact fun i j _ _ _ => by omega
end
theorem stable.calls (g:Nat) (cf:S70→S70→Int) (key:S70→Int) (hcf:∀ x y,cf x y<0↔key x<key y) (eg:∀ args w,(callFunc g args).run Tryz.prog w = .ok (.enter g args) w) (hC:∀ blk off size w,CmpLays Tryz.prog g #[] encJ 2 cf blk off size w)
    (blk off cap:Nat) (d:Array S70) (w:World) (R:RowK encJ 2 w blk off d) (hsz:d.size<1152921504606846976) :
    Calls Tryz.prog 131 #[.slice (some ⟨blk,off,none⟩) d.size cap,.int .i64 d.size,.func (.func g) #[] #[]] w fun e w' => e = .returned (.tuple #[])∧∃ d',SWK encJ 2 w blk off d' w'∧MG key d 0 d.size d'∧Srt key d' 0 d.size:=by
  have hlt:∀ x y,ltOf cf x y=true↔key x<key y:=fun x y => by unfold ltOf;rw [decide_eq_true_iff];exact hcf x y
  have INS:∀ (a b:Nat) (dk:Array S70) (W:World),SWK encJ 2 w blk off dk W→dk.size=d.size→a≤b→b≤d.size →
      Calls Tryz.prog 148 #[.slice (some ⟨blk,off,none⟩) d.size cap,.int .i64 a,.int .i64 b,.func (.func g) #[] #[]] W fun e w' => e = .returned (.tuple #[])∧∃ d',SWK encJ 2 w blk off d' w'∧MG key dk a b d'∧Srt key d' a b:=fun a b dk W S hs hab hb => by
    have h:=AnyQ.insertionSortCmpFunc Tryz.insSort 2 isAggP sizeOfP encJ (fun _ => rfl) encJ_one cf g #[] blk off cap a b dk W eg (hC _ _ _ _) (S.holds R.hblk R.hH hs) (S.lt R.hblk) hab (by omega) (by omega)
    rw [hs] at h
    refine Calls.mono h ?_
    rintro e w' ⟨he,n,os,rfl⟩
    have hz:(Sort.insertionSort (ltOf cf) dk a b).size=dk.size:=(ins_MG (fun x y => (hlt x y).1) dk a b hab (by omega)).1
    exact ⟨he,_,S.on R.hblk n _ os hz,ins_MG (fun x y => (hlt x y).1) dk a b hab (by omega),ins_Srt hlt dk a b hab (by omega)⟩
  have IN:=YtcgbgifbajdhpaaGreatDoorW.PrintWords.Aside0.mk INS
  have SY:=YtcgbgifbajdhpaaGreatDoorW.PrintWords.Aside0.mk (fun k => symMerge.calls g cf key hcf eg blk off cap d w R (hC _ _ _ _) (by omega) k)
  have S0:Aside (SWK encJ 2 w blk off d w):=SWK.start R.hH
  have RR:=YtcgbgifbajdhpaaGreatDoorW.PrintWords.Aside0.mk R
  obtain ⟨n,hn⟩:∃ n,n=d.size:=⟨_,rfl⟩
  have HN:=YtcgbgifbajdhpaaGreatDoorW.PrintWords.Aside0.mk hn
  rw [← hn] at IN hsz ⊢
  clear INS hlt hcf eg hC R hn
  go_enter Tryz.func131,Tryz.ntmps131
  go_wp2
  go_loopg [7,8] n (fun kx s7 s8 wr => ∃ (a:Nat) (dk:Array S70),s7 = .int .i64 a∧s8 = .int .i64 (a+20:Nat)∧a≤n∧n - a≤kx∧dk.size=n∧Aside (SWK encJ 2 w blk off dk wr)∧YtcgbgifbajdhpaaGreatDoorW.PrintWords.Aside0 (20 ∣ a)∧Aside (BlkD key dk 20 a)∧Aside (MG key d 0 n dk))
  case atStart => exact ⟨0,d,rfl,rfl,Nat.zero_le _,by omega,HN.out.symm,S0,⟨Nat.dvd_zero _⟩,(fun s h1 h2 => by omega),MG.refl _ _ _⟩
  case round =>
    clear S0
    obtain ⟨a,dk,rfl,rfl,han,hkx,hds,S1,HD,HB,HM⟩:=hrel
    by_cases hlt:a+20≤n
    · have hltz:((a+20:Nat):Int)≤(n:Int):=by omega
      have hc:=YtcgbgifbajdhpaaGreatDoorW.PrintWords.Aside0.mk (IN.out a (a+20) dk wr S1.out (by omega) (by omega) (by omega))
      go_wp2_with (first | (go_at_call 148;refine hc.out.mono ?_;rintro _ w1 ⟨rfl,d1,hS,hm1,hs1⟩;have T1:Aside (SWK encJ 2 w blk off d1 w1):=hS;have M1:=YtcgbgifbajdhpaaGreatDoorW.PrintWords.Aside0.mk hm1;have R1:=YtcgbgifbajdhpaaGreatDoorW.PrintWords.Aside0.mk hs1;clear hS hm1 hs1))
      go_roundg (n - (a+20))
      case measure => omega
      case rel => exact ⟨a+20,d1,by go_num,by go_num,hlt,Nat.le_refl _,M1.out.1.trans hds,T1,⟨Nat.dvd_add HD.out (Nat.dvd_refl _)⟩,HB.out.step HD.out M1.out R1.out,HM.out.trans (M1.out.wide (Nat.zero_le _) (by omega) (by omega))⟩
    · have hltz : ¬ ((a + 20 : Nat) : Int) ≤ (n : Int) := by omega
      have hltz2:¬ (a:Int)+20≤(n:Int):=by omega
      have hc:=YtcgbgifbajdhpaaGreatDoorW.PrintWords.Aside0.mk (IN.out a n dk wr S1.out (by omega) (by omega) (by omega))
      go_wp2_with (first | (go_at_call 148;refine hc.out.mono ?_;rintro _ w1 ⟨rfl,d1,hS,hm1,hs1⟩;have T1:Aside (SWK encJ 2 w blk off d1 w1):=hS;have M1:=YtcgbgifbajdhpaaGreatDoorW.PrintWords.Aside0.mk hm1;have R1:=YtcgbgifbajdhpaaGreatDoorW.PrintWords.Aside0.mk hs1;clear hS hm1 hs1))
      go_loopg [6,7,8,9] n (fun kx s6 s7 s8 s9 wr => ∃ (c:Nat) (dk:Array S70),s6 = .int .i64 c∧20≤c∧(c=20∨c<2*n)∧n - c≤kx∧dk.size=n∧Aside (SWK encJ 2 w blk off dk wr)∧Aside (BlkF key dk c n 0)∧Aside (MG key d 0 n dk))
      case atStart => exact ⟨20,d1,rfl,by omega,.inl rfl,by omega,M1.out.1.trans hds,T1,Blk.first (by omega) HB.out HD.out (by omega) (by omega) M1.out R1.out,HM.out.trans (M1.out.wide (Nat.zero_le _) (by omega) (by omega))⟩
      case round =>
        clear S1 T1 M1 R1 HB HM hc HD hkx hds
        obtain ⟨c,dk,rfl,hc1,hc2,hkx,hds,S1,HB,HM⟩:=hrel
        by_cases hcn:c<n
        · have hcnz:(c:Int)<(n:Int):=by omega
          go_wp2
          go_loopg [7,8] n (fun kx s7 s8 wr => ∃ (a:Nat) (dk:Array S70),s7 = .int .i64 a∧s8 = .int .i64 ((a:Int)+2*(c:Int))∧a≤n∧n - a≤kx∧dk.size=n∧Aside (SWK encJ 2 w blk off dk wr)∧YtcgbgifbajdhpaaGreatDoorW.PrintWords.Aside0 (2*c ∣ a)∧Aside (BlkD key dk (2*c) a)∧Aside (BlkF key dk c n a)∧Aside (MG key d 0 n dk))
          case atStart => exact ⟨0,dk,rfl,by go_num,Nat.zero_le _,by omega,hds,S1,⟨Nat.dvd_zero _⟩,(fun s h1 h2 => by omega),HB,HM⟩
          case round =>
            clear S1 HB HM hds
            obtain ⟨a,dk,rfl,rfl,han,hkx2,hds,S1,HD,HB,HF,HM⟩:=hrel
            have dca:c ∣ a:=Nat.dvd_trans (Nat.dvd_mul_left _ _) HD.out
            have HDC:=YtcgbgifbajdhpaaGreatDoorW.PrintWords.Aside0.mk dca
            clear dca
            by_cases hlt2:a+2*c≤n
            · have hltz3:((a+2*c:Nat):Int)≤(n:Int):=by omega
              have hltz4:(a:Int)+2*(c:Int)≤(n:Int):=by omega
              have hA:Srt key dk a (a+c):=(HF.out a HDC.out (Nat.le_refl _)).sub (Nat.le_refl _) (by omega)
              have hB:Srt key dk (a+c) (a+2*c):=(HF.out (a+c) (Nat.dvd_add HDC.out (Nat.dvd_refl _)) (by omega)).sub (Nat.le_refl _) (by omega)
              have hc:=YtcgbgifbajdhpaaGreatDoorW.PrintWords.Aside0.mk (SY.out n a (a+c) (a+2*c) dk wr (by omega) (by rw [hds];exact HN.out) S1.out (by omega) (by omega) (by rw [← HN.out];exact hlt2) hA hB)
              rw [← HN.out,show ((a+c:Nat):Int)=(a:Int)+(c:Int) from by omega,show ((a+2*c:Nat):Int)=(a:Int)+2*(c:Int) from by omega] at hc
              clear hA hB
              go_wp2_with (first | (go_at_call 149;refine hc.out.mono ?_;rintro _ w1 ⟨rfl,d1,hS,hm1,hs1⟩;have T1:Aside (SWK encJ 2 w blk off d1 w1):=hS;have M1:=YtcgbgifbajdhpaaGreatDoorW.PrintWords.Aside0.mk hm1;have R1:=YtcgbgifbajdhpaaGreatDoorW.PrintWords.Aside0.mk hs1;clear hS hm1 hs1))
              go_roundg (n - (a+2*c))
              case measure => omega
              case rel => exact ⟨a+2*c,d1,by go_num,by go_num,hlt2,Nat.le_refl _,M1.out.1.trans hds,T1,⟨Nat.dvd_add HD.out (Nat.dvd_refl _)⟩,HB.out.step HD.out M1.out R1.out,HF.out.step M1.out (by omega),HM.out.trans (M1.out.wide (Nat.zero_le _) (by omega) (by omega))⟩
            · have hltz3:¬ ((a+2*c:Nat):Int)≤(n:Int):=by omega
              have hltz4:¬ (a:Int)+2*(c:Int)≤(n:Int):=by omega
              by_cases hm:a+c<n
              · have hmz:(a:Int)+(c:Int)<(n:Int):=by omega
                have hA:Srt key dk a (a+c):=(HF.out a HDC.out (Nat.le_refl _)).sub (Nat.le_refl _) (by omega)
                have hB:Srt key dk (a+c) n:=(HF.out (a+c) (Nat.dvd_add HDC.out (Nat.dvd_refl _)) (by omega)).sub (Nat.le_refl _) (by omega)
                have hc:=YtcgbgifbajdhpaaGreatDoorW.PrintWords.Aside0.mk (SY.out n a (a+c) n dk wr (by omega) (by rw [hds];exact HN.out) S1.out (by omega) (by omega) (by rw [← HN.out];exact Nat.le_refl _) hA hB)
                rw [← HN.out,show ((a+c:Nat):Int)=(a:Int)+(c:Int) from by omega] at hc
                clear hA hB
                go_wp2_with (first | (go_at_call 149;refine hc.out.mono ?_;rintro _ w1 ⟨rfl,d1,hS,hm1,hs1⟩;have T1:Aside (SWK encJ 2 w blk off d1 w1):=hS;have M1:=YtcgbgifbajdhpaaGreatDoorW.PrintWords.Aside0.mk hm1;have R1:=YtcgbgifbajdhpaaGreatDoorW.PrintWords.Aside0.mk hs1;clear hS hm1 hs1))
                go_roundg (n - c*2)
                case measure => omega
                case rel => exact ⟨c*2,d1,by go_num,by omega,.inr (by omega),by omega,M1.out.1.trans hds,T1,(by rw [Nat.mul_comm c 2];exact Blk.first (by omega) HB.out HD.out han (by omega) M1.out R1.out),HM.out.trans (M1.out.wide (Nat.zero_le _) (Nat.le_refl _) han)⟩
              · have hmz:¬ (a:Int)+(c:Int)<(n:Int):=by omega
                have HS:=YtcgbgifbajdhpaaGreatDoorW.PrintWords.Aside0.mk (show Srt key dk a n from (HF.out a HDC.out (Nat.le_refl _)).sub (Nat.le_refl _) (by omega))
                go_wp2
                go_roundg (n - c*2)
                case measure => omega
                case rel => exact ⟨c*2,dk,by go_num,by omega,.inr (by omega),by omega,hds,S1,(by rw [Nat.mul_comm c 2];exact Blk.first (by omega) HB.out HD.out han (by omega) (MG.refl _ _ _) HS.out),HM⟩
        · have hcnz:¬ (c:Int)<(n:Int):=by omega
          go_wp2
          go_end0
          exact ⟨rfl,dk,S1.out,HM.out,(HB.out 0 (Nat.dvd_zero _) (Nat.le_refl _)).sub (Nat.le_refl _) (by omega)⟩
theorem sortStable.calls (g:Nat) (cf:S70→S70→Int) (key:S70→Int) (hcf:∀ x y,cf x y<0↔key x<key y) (eg:∀ args w,(callFunc g args).run Tryz.prog w = .ok (.enter g args) w) (hC:∀ blk off size w,CmpLays Tryz.prog g #[] encJ 2 cf blk off size w)
    (blk off cap:Nat) (d:Array S70) (w:World) (R:RowK encJ 2 w blk off d) (hsz:d.size<1152921504606846976) :
    Calls Tryz.prog 109 #[.slice (some ⟨blk,off,none⟩) d.size cap,.func (.func g) #[] #[]] w fun e w' => e = .returned (.tuple #[])∧∃ d',SWK encJ 2 w blk off d' w'∧MG key d 0 d.size d'∧Srt key d' 0 d.size:=by
  have HI:=YtcgbgifbajdhpaaGreatDoorW.PrintWords.Aside0.mk (stable.calls g cf key hcf eg hC blk off cap d w R hsz)
  clear R hsz hcf eg hC
  generalize d.size=n at *
  go_enter Tryz.func109,Tryz.ntmps109
  go_wp2_with (first | (go_at_call 131;refine HI.out.mono ?_;rintro e w' ⟨rfl,hw'⟩;have HW:=YtcgbgifbajdhpaaGreatDoorW.PrintWords.Aside0.mk hw';clear hw'))
  go_end0
  exact ⟨rfl,HW.out⟩
end Go.Proofs.YtcgbgifbajdhpaaGreatDoor.PA
namespace Go.Proofs
open Go.Shelf Go.RowKit Go.Lib Go.Sort
def Tryz.revP_ren:Go.Shelf.Ren:=⟨fun | 35 => 107 | n => n,fun | 22 => 49 | 23 => 70 | 3 => 3 | 4 => 4 | 0 => 0 | n => n,fun | n => n⟩
theorem Tryz.revP:Go.Proofs.SlLaysE0.n35 Tryz.prog Tryz.revP_ren:={
  mixed:=by kernel_rfl
  f35:=⟨Tryz.f107.name,by decide,Tryz.func107.trans (congrArg some (by kernel_rfl))⟩
  t0:=Tryz.underlying0
  a0:=Tryz.isAgg0
  z0:=Tryz.sizeOf0
  v0:=Tryz.zeroValue0
  t3:=Tryz.underlying3
  a3:=Tryz.isAgg3
  z3:=Tryz.sizeOf3
  v3:=Tryz.zeroValue3
  t4:=Tryz.underlying4
  a4:=Tryz.isAgg4
  z4:=Tryz.sizeOf4
  v4:=Tryz.zeroValue4
  t22:=Tryz.underlying49
  a22:=Tryz.isAgg49
  z22:=Tryz.sizeOf49
  v22:=Tryz.zeroValue49 }
end Go.Proofs
namespace Go.Proofs.YtcgbgifbajdhpaaGreatDoor.PA
open Go.Shelf Go.RowKit Go.Lib Go.Sort
def cmpI (x y:Int):Int:=if x<y then -1 else if y<x then 1 else 0
def cfP (a b:S70):Int:=cmpI a.f0 b.f0
def keyP (a:S70):Int:=a.f0
theorem cfP_key (x y:S70):cfP x y<0↔keyP x<keyP y:=by
  unfold cfP cmpI keyP
  by_cases h:x.f0<y.f0
  · simp [h]
  · by_cases h2:y.f0<x.f0 <;> simp [h,h2]
theorem cmpP.calls (a b:S70) (W:World):Calls Tryz.prog 108 #[.agg (encJ a).toArray,.agg (encJ b).toArray] W fun e w' => e = .returned (.int .i64 (cfP a b))∧∃ q os',w'=grow (W.drewN q) os':=by
  unfold encJ
  simp only [List.toArray]
  go_enter Tryz.func108,Tryz.ntmps108
  have h0:(a.f0 != a.f0)=false:=by simp
  have h1:(b.f0 != b.f0)=false:=by simp
  by_cases h2:a.f0<b.f0
  · have d2:decide (a.f0<b.f0)=true:=decide_eq_true h2
    have HC:Aside (cfP a b = -1):=by show cfP a b = -1;unfold cfP cmpI;rw [if_pos h2]
    clear h2
    go_wp2_with (first | go_in)
    go_ret
    exact ⟨by rw [show cfP a b = -1 from HC];rfl,0,_,by rw [alloc_eq_grow,alloc_eq_grow,grow_grow];rfl⟩
  · have d2:decide (a.f0<b.f0)=false:=decide_eq_false h2
    by_cases h3:b.f0<a.f0
    · have d3:decide (b.f0<a.f0)=true:=decide_eq_true h3
      have HC:Aside (cfP a b=1):=by show cfP a b=1;unfold cfP cmpI;rw [if_neg h2,if_pos h3]
      clear h2 h3
      go_wp2_with (first | go_in)
      go_ret
      exact ⟨by rw [show cfP a b=1 from HC];rfl,0,_,by rw [alloc_eq_grow,alloc_eq_grow,grow_grow];rfl⟩
    · have d3:decide (b.f0<a.f0)=false:=decide_eq_false h3
      have HC:Aside (cfP a b=0):=by show cfP a b=0;unfold cfP cmpI;rw [if_neg h2,if_neg h3]
      clear h2 h3
      go_wp2_with (first | go_in)
      go_ret
      exact ⟨by rw [show cfP a b=0 from HC];rfl,0,_,by rw [alloc_eq_grow,alloc_eq_grow,grow_grow];rfl⟩
theorem cmpP.lays (blk off size:Nat) (w:World):CmpLays Tryz.prog 108 #[] encJ 2 cfP blk off size w:=fun _ _ _ _ x y => cmpP.calls x y _
theorem cmpP.enters:∀ args w,(callFunc 108 args).run Tryz.prog w = .ok (.enter 108 args) w:=enters_of Tryz.func108 (by kernel_rfl) rfl
theorem eqP.enters:∀ args w,(callFunc 111 args).run Tryz.prog w = .ok (.enter 111 args) w:=enters_of Tryz.func111 (by kernel_rfl) rfl
theorem eqP.calls (a b:S70) (W:World):Calls Tryz.prog 111 #[.agg #[.int .i64 a.f0,.int .u64 a.f1],.agg #[.int .i64 b.f0,.int .u64 b.f1]] W fun e w' => e = .returned (.bool (a.f0 == b.f0))∧∃ q os',w'=grow (W.drewN q) os':=by
  go_enter Tryz.func111,Tryz.ntmps111
  go_wp2
  go_ret
  exact ⟨rfl,0,_,by rw [alloc_eq_grow,alloc_eq_grow,grow_grow];rfl⟩
theorem SWK.trans {w0 W W':World} {blk off:Nat} {d d':Array S70} (h:SWK encJ 2 w0 blk off d W) (hb:blk<w0.heap.size) (k:SWK encJ 2 W blk off d' W') (hs:d'.size=d.size):SWK encJ 2 w0 blk off d' W':=by
  obtain ⟨m,os,rfl⟩:=k
  exact h.on hb m d' os hs
theorem SWK.row {w0 W:World} {blk off:Nat} {d0 d:Array S70} (h:SWK encJ 2 w0 blk off d W) (R:RowK encJ 2 w0 blk off d0) (hs:d.size=d0.size):RowK encJ 2 W blk off d:=⟨R.hk,R.h1,h.holds R.hblk R.hH hs,h.lt R.hblk⟩
theorem revP.calls (blk off cap:Nat) (d:Array S70) (w:World) (R:RowK encJ 2 w blk off d) (hsz:d.size≤9223372036854775807) :
    Calls Tryz.prog 107 #[.slice (some ⟨blk,off,none⟩) d.size cap] w fun e w' => e = .returned (.tuple #[])∧SWK encJ 2 w blk off d.reverse w':=by
  refine Calls.mono (AnyQ.slices_Reverse Tryz.revP 2 isAggP sizeOfP encJ (fun _ => rfl) encJ_one blk off cap d w R.hH hsz) ?_
  rintro e w' ⟨he,n,rfl⟩
  exact ⟨he,n,#[],by unfold sortWorldK;rw [grow_empty]⟩
section
variable {w0 W:World} {blk off:Nat} {d0 dk dk':Array S70}
theorem swk_many (h:SWK encJ 2 w0 blk off dk W) (hb:blk<w0.heap.size) (s:Nat) (vs:List Value) (hs:s+vs.length≤dk.size*2) (he:setMany (flatK encJ 2 dk) s vs=flatK encJ 2 dk'):SWK encJ 2 w0 blk off dk' (W.setCells blk (off+s) vs):=by
  obtain ⟨n,os,rfl⟩:=h
  refine ⟨n,os,?_⟩
  unfold sortWorldK
  rw [← putRowK_grow encJ 2 (Sort.ahead w0 n) os blk off dk hb,← putRowK_grow encJ 2 (Sort.ahead w0 n) os blk off dk' hb]
  unfold putRowK
  rw [setCells_putRow _ _ _ _ _ _ (by rw [size_flatK];exact hs),he]
theorem swk_set (h:SWK encJ 2 w0 blk off dk W) (hb:blk<w0.heap.size) (i:Nat) (hi:i<dk.size) (x:S70) :
    SWK encJ 2 w0 blk off (dk.setIfInBounds i x) ((W.setCell ⟨blk,off+i*2,none⟩ (.int .i64 x.f0)).setCell ⟨blk,off+i*2+1,none⟩ (.int .u64 x.f1)):=by
  refine swk_many h hb (i*2) (encJ x) (by show i*2+2≤_;omega) (ext_get! (by simp) fun t ht => ?_)
  have ht':t<dk.size*2:=by simpa using ht
  rw [get_setMany _ _ _ t (by simpa using ht'),get_flatK _ _ _ t ht',get_flatK _ _ _ t (by simpa using ht')]
  have h2:(encJ x).length=2:=rfl
  by_cases c:t / 2=i
  · rw [if_pos (by rw [h2];omega),show t - i*2=t % 2 from by omega]
    congr 2
    subst c
    simp [getElem!_def,hi]
  · rw [if_neg (by rw [h2];omega)]
    congr 2
    simp [getElem!_def,Array.getElem?_setIfInBounds,Ne.symm c]
end
def zs2 (m:Nat):List Value:=(Builtin.zeroCells #[.int .i64 0,.int .u64 0] m).toList
theorem zs2_len (m:Nat):(zs2 m).length=m*2:=by simp [zs2,Builtin.zeroCells]
theorem zs2_get (m t:Nat) (h:t<m*2):(zs2 m)[t]! = (encJ z70)[t % 2]! := by
  have h2:t % 2=0∨t % 2=1:=by omega
  have:(zs2 m)[t]? = some ((#[Value.int .i64 0,.int .u64 0]:Array Value)[t % 2]!):=by
    simp [zs2,Builtin.zeroCells,h]
  rw [List.getElem!_eq_getElem?_getD,this]
  rcases h2 with h2 | h2 <;> rw [h2] <;> rfl
theorem zs2_one (m:Nat):∀ v ∈ zs2 m,v.oneCell'=true:=by
  intro v hv
  obtain ⟨t,ht,rfl⟩:=List.mem_iff_getElem.1 hv
  have h2:t % 2=0∨t % 2=1:=by omega
  have h:=zs2_get m t (by rw [zs2_len] at ht;exact ht)
  rw [List.getElem!_eq_getElem?_getD,List.getElem?_eq_getElem ht] at h
  have h':(zs2 m)[t] = (encJ z70)[t % 2]! := h
  rw [h']
  rcases h2 with h2 | h2 <;> rw [h2] <;> rfl
def cutZ (d:Array S70) (k:Nat):Array S70:=((List.range d.size).map fun t => if t<k then d[t]! else z70).toArray
theorem cutZ_size (d:Array S70) (k:Nat):(cutZ d k).size=d.size:=by simp [cutZ]
theorem cutZ_get (d:Array S70) (k t:Nat) (h:t<d.size):(cutZ d k)[t]! = if t<k then d[t]! else z70:=by
  simp [cutZ,h]
theorem swk_clear {w0 W:World} {blk off:Nat} {d:Array S70} (h:SWK encJ 2 w0 blk off d W) (hb:blk<w0.heap.size) (k:Nat) (hk:k≤d.size):SWK encJ 2 w0 blk off (cutZ d k) (W.setCells blk (off+k*2) (zs2 (d.size - k))):=by
  refine swk_many h hb (k*2) _ (by rw [zs2_len];omega) (ext_get! (by simp [cutZ_size]) fun t ht => ?_)
  have ht':t<d.size*2:=by simpa using ht
  rw [get_setMany _ _ _ t (by simpa using ht'),get_flatK _ _ _ t ht',get_flatK _ _ _ t (by rw [cutZ_size];exact ht'),cutZ_get _ _ _ (by omega),zs2_len]
  by_cases c:t / 2<k
  · rw [if_neg (by omega),if_pos c]
  · rw [if_pos (by omega),if_neg c,zs2_get _ _ (by omega),show (t - k*2) % 2=t % 2 from by omega]
theorem clear_run (W:World) (blk o m c:Nat) (hc:∀ j,j<m*2→(W.cell? ⟨blk,o+j,none⟩).isSome=true) (hf:∀ j,j<m*2→W.frozen? ⟨blk,o+j,none⟩=false) (hm:0<m) (ty:TypeId) :
    Sem.run Tryz.prog (Builtin.clear_ #[49] ty #[.slice (some ⟨blk,o,none⟩) m c]) W = .ok (.tuple #[]) (W.setCells blk o (zs2 m)):=by
  have hst:=run_storeCells_cells (P:=Tryz.prog) blk o (zs2 m) 0 W (by rw [zs2_len];simpa using hc) (by rw [zs2_len];simpa using hf) (zs2_one m)
  simp only [Nat.add_zero] at hst
  have hz:∀ w,(zeroValue 70).run Tryz.prog w = .ok (.agg #[.int .i64 0,.int .u64 0]) w:=fun w => by kernel_rfl
  obtain ⟨q,rfl⟩:∃ q,m=q+1:=⟨m - 1,by omega⟩
  have hzs:(Builtin.zeroCells (Value.agg #[.int .i64 0,.int .u64 0]).cells (q+1)).toList=zs2 (q+1):=rfl
  simp [Builtin.clear_,run_underlying Tryz.underlying49,hz,hzs,hst]
def cK (d:Array S70):Nat→List S70
  | 0 => []
  | i+1 => if i=0∨d[i]!.f0 ≠ d[i - 1]!.f0 then cK d i ++ [d[i]!] else cK d i
theorem cK_le (d:Array S70):∀ i,(cK d i).length≤i
  | 0 => Nat.le_refl _
  | i+1 => by
    have:=cK_le d i
    rw [cK]
    split
    · rw [List.length_append];simp;omega
    · omega
theorem cK_go (d:Array S70) (i:Nat) (h:(d[i]!.f0 == d[i - 1]!.f0)=false):cK d (i+1)=cK d i ++ [d[i]!]:=by
  rw [cK,if_pos (.inr (by simpa using h))]
theorem cK_stay (d:Array S70) (i:Nat) (hi:0<i) (h:(d[i]!.f0 == d[i - 1]!.f0)=true):cK d (i+1)=cK d i:=by
  rw [cK,if_neg (by rintro (h1 | h1);omega;exact h1 (by simpa using h))]
theorem seg_one {α:Type} [Inhabited α] (d:Array α) (k:Nat):segA d k (k+1)=[d[k]!]:=by simp [segA]
theorem at_off (off a b:Nat):off+(a+b)*2=off+a*2+b*2:=by omega
theorem compactP.calls (blk off cap:Nat) (d:Array S70) (w:World) (R:RowK encJ 2 w blk off d) (hcap:d.size≤cap) (hsz:d.size<1152921504606846976) :
    Calls Tryz.prog 110 #[.slice (some ⟨blk,off,none⟩) d.size cap,.func (.func 111) #[] #[]] w fun e w' => e = .returned (.slice (some ⟨blk,off,none⟩) (cK d d.size).length cap)∧∃ d',SWK encJ 2 w blk off d' w'∧d'.size=d.size∧segA d' 0 (cK d d.size).length=cK d d.size:=by
  have mixed:Tryz.prog.follows .mixedOrders=true:=by kernel_rfl
  have eg:=eqP.enters
  have S0:Aside (SWK encJ 2 w blk off d w):=SWK.start R.hH
  have RR:=YtcgbgifbajdhpaaGreatDoorW.PrintWords.Aside0.mk R
  obtain ⟨n,hn⟩:∃ n,n=d.size:=⟨_,rfl⟩
  have HN:=YtcgbgifbajdhpaaGreatDoorW.PrintWords.Aside0.mk hn
  rw [← hn] at hsz hcap ⊢
  clear R hn
  by_cases h2:n<2
  · have h2z:(n:Int)<2:=by omega
    have HE:YtcgbgifbajdhpaaGreatDoorW.PrintWords.Aside0 (cK d n=segA d 0 n):=⟨by
      rcases (show n=0∨n=1 from by omega) with h | h
      · rw [h];rfl
      · rw [h];rfl⟩
    go_enter Tryz.func110,Tryz.ntmps110
    go_wp2
    go_ret
    exact ⟨by rw [HE.out,seg_len,Nat.sub_zero];rfl,d,S0,HN.out.symm,by rw [HE.out,seg_len,Nat.sub_zero]⟩
  · have h2z : ¬ (n : Int) < 2 := by omega
    go_enter Tryz.func110,Tryz.ntmps110
    go_wp2
    go_loopg [5] n (fun kx s5 wr => ∃ (k:Nat),s5 = .int .i64 (k+1:Nat)∧k+1≤n∧n - k≤kx∧Aside (SWK encJ 2 w blk off d wr)∧YtcgbgifbajdhpaaGreatDoorW.PrintWords.Aside0 (cK d (k+1)=segA d 0 (k+1)))
    case atStart => exact ⟨0,rfl,by omega,by omega,S0,⟨rfl⟩⟩
    case round =>
      clear S0
      obtain ⟨k,rfl,hk,hkx,S1,HE⟩:=hrel
      by_cases hlt:k+1<n
      · have hltz : (k : Int) + 1 < (n : Int) := by omega
        have e1:((k:Int)+1).toNat=k+1:=by omega
        have pa:(0:Int)≤(k:Int)+1:=by omega
        have e2:(k:Int)+1 - 1=(k:Int):=by omega
        have r2:IntKind.i64.wrap ((k:Int)+1 - 1)=(k:Int):=by rw [IntKind.wrap_i64];omega
        have r3:IntKind.i64.wrap (k:Int)=(k:Int):=by rw [IntKind.wrap_i64];omega
        have bk:(k:Int)<(n:Int):=by omega
        have c0:=fun n' os' => (swk_gcell S1.out RR.out rfl (k+1) (by rw [← HN.out];exact hlt) n' os').1
        have c1:=fun n' os' => (swk_gcell S1.out RR.out rfl (k+1) (by rw [← HN.out];exact hlt) n' os').2
        have g0:=fun n' os' => (swk_gcell S1.out RR.out rfl k (by rw [← HN.out];omega) n' os').1
        have g1:=fun n' os' => (swk_gcell S1.out RR.out rfl k (by rw [← HN.out];omega) n' os').2
        have hc:=fun n' os' => eqP.calls d[k+1]! d[k]! (grow (wr.drewN n') os')
        cases hv:(d[k+1]!.f0 == d[k]!.f0) with
        | false =>
          have HX:=YtcgbgifbajdhpaaGreatDoorW.PrintWords.Aside0.mk (cK_go d (k+1) hv)
          generalize d[k+1]! = x at c0 c1 hc hv
          generalize d[k]! = y at g0 g1 hc hv
          go_wp2_with fail
          go_quiet_grown (first | (go_at_fn 111;refine Calls.grown_of (hc _ _)))
          have S2:Aside (SWK encJ 2 w blk off d (grow (wr.drewN nq) osq)):=S1.out.grown nq osq
          clear c0 c1 g0 g1 hc S1
          generalize grow (wr.drewN nq) osq=w2 at S2 ⊢
          clear nq osq
          go_wp2
          go_roundg (n - (k+1))
          case measure => omega
          case rel => exact ⟨k+1,by go_num,by omega,Nat.le_refl _,S2,⟨by rw [HX.out,HE.out,seg_cat d (Nat.zero_le (k+1)) (Nat.le_succ (k+1)),seg_one]⟩⟩
        | true =>
          have HX:=YtcgbgifbajdhpaaGreatDoorW.PrintWords.Aside0.mk (cK_stay d (k+1) (by omega) hv)
          generalize d[k+1]! = x at c0 c1 hc hv
          generalize d[k]! = y at g0 g1 hc hv
          go_wp2_with fail
          go_quiet_grown (first | (go_at_fn 111;refine Calls.grown_of (hc _ _)))
          have S2:Aside (SWK encJ 2 w blk off d (grow (wr.drewN nq) osq)):=S1.out.grown nq osq
          clear c0 c1 g0 g1 hc S1
          generalize grow (wr.drewN nq) osq=w2 at S2 ⊢
          clear nq osq
          have hcz:¬ (cap:Int)=(k:Int)+1:=by omega
          have hcz2:¬ cap=k+1:=by omega
          have HCZ:=hcap
          go_wp2
          rw [hv]
          clear hv
          obtain ⟨M,hM⟩:∃ M,M=n - (k+1):=⟨_,rfl⟩
          rw [← hM]
          have hM1:M+(k+1)=n:=by omega
          have HM:=YtcgbgifbajdhpaaGreatDoorW.PrintWords.Aside0.mk hM1
          have hM2:M+k<n:=by omega
          have hM3:n≤M+k+1:=by omega
          clear hM hM1 hcz hcz2 HCZ
          go_loopg [5,7] M (fun kx s5 s7 wr => ∃ (q j:Nat) (dk:Array S70),s5 = .int .i64 q∧s7 = .int .i64 (j+1:Nat)∧j+1≤M∧k+1≤q∧q≤k+1+j∧M - j≤kx∧Aside (SWK encJ 2 w blk off dk wr)∧YtcgbgifbajdhpaaGreatDoorW.PrintWords.Aside0 (dk.size=d.size)∧YtcgbgifbajdhpaaGreatDoorW.PrintWords.Aside0 (segA dk 0 q=cK d (k+1+(j+1))∧∀ t,q≤t→dk[t]! = d[t]!))
          case atStart => exact ⟨k+1,0,d,by go_num,rfl,by omega,Nat.le_refl _,Nat.le_refl _,by omega,S2,⟨rfl⟩,⟨by rw [show k+1+(0+1)=k+1+1 from rfl,HX.out,HE.out],fun _ _ => rfl⟩⟩
          case round =>
            clear S2 HX HE
            obtain ⟨q,j,dk,rfl,rfl,hj,hkq,hqj,hkx2,S3,HS,HQ⟩:=hrel
            by_cases hlt3:j+1<M
            · have hltz3:(j:Int)+1<(M:Int):=by omega
              have e1:((j:Int)+1).toNat=j+1:=by omega
              have pa2:(0:Int)≤(j:Int)+1:=by omega
              have e2:(j:Int)+1 - 1=(j:Int):=by omega
              have r2:IntKind.i64.wrap ((j:Int)+1 - 1)=(j:Int):=by rw [IntKind.wrap_i64];omega
              have r3:IntKind.i64.wrap (j:Int)=(j:Int):=by rw [IntKind.wrap_i64];omega
              have bj:(j:Int)<(M:Int):=by omega
              have hi1:k+1+(j+1)<dk.size:=by rw [HS.out,← HN.out];omega
              have hi2:k+1+j<dk.size:=by rw [HS.out,← HN.out];omega
              have k0:=swk_gcell S3.out RR.out HS.out (k+1+(j+1)) hi1
              have k1:=swk_gcell S3.out RR.out HS.out (k+1+j) hi2
              rw [at_off] at k0 k1
              have c0:=fun n' os' => (k0 n' os').1
              have c1:=fun n' os' => (k0 n' os').2
              have g0:=fun n' os' => (k1 n' os').1
              have g1:=fun n' os' => (k1 n' os').2
              have hc:=fun n' os' => eqP.calls dk[k+1+(j+1)]! dk[k+1+j]! (grow (wr.drewN n') os')
              have HI:=YtcgbgifbajdhpaaGreatDoorW.PrintWords.Aside0.mk (And.intro hi1 hi2)
              clear k0 k1 hi1 hi2
              have HX1:=YtcgbgifbajdhpaaGreatDoorW.PrintWords.Aside0.mk (HQ.out.2 (k+1+(j+1)) (by omega))
              have HX2:=YtcgbgifbajdhpaaGreatDoorW.PrintWords.Aside0.mk (HQ.out.2 (k+1+j) (by omega))
              have K0:=fun (W:World) (S:SWK encJ 2 w blk off dk W) => swk_cell S RR.out HS.out (k+1+(j+1)) HI.out.1
              rw [at_off] at K0
              have KK:=YtcgbgifbajdhpaaGreatDoorW.PrintWords.Aside0.mk K0
              clear K0
              cases hv:(dk[k+1+(j+1)]!.f0 == dk[k+1+j]!.f0) with
              | true =>
                have HX:=YtcgbgifbajdhpaaGreatDoorW.PrintWords.Aside0.mk (cK_stay d (k+1+(j+1)) (by omega) (by rw [← HX1.out,show k+1+(j+1) - 1=k+1+j from rfl,← HX2.out];exact hv))
                generalize dk[k+1+(j+1)]! = x2 at c0 c1 hc hv
                generalize dk[k+1+j]! = y2 at g0 g1 hc hv
                go_wp2_with fail
                go_quiet_grown (first | (go_at_fn 111;refine Calls.grown_of (hc _ _)))
                have S4:Aside (SWK encJ 2 w blk off dk (grow (wr.drewN nq) osq)):=S3.out.grown nq osq
                clear c0 c1 g0 g1 hc S3
                generalize grow (wr.drewN nq) osq=w3 at S4 ⊢
                clear nq osq
                go_wp2
                go_roundg (M - (j+1))
                case measure => omega
                case rel => exact ⟨q,j+1,dk,rfl,by go_num,by omega,hkq,by omega,Nat.le_refl _,S4,HS,⟨by rw [show k+1+(j+1+1)=k+1+(j+1)+1 from rfl,HX.out];exact HQ.out.1,HQ.out.2⟩⟩
              | false =>
                have HX:=YtcgbgifbajdhpaaGreatDoorW.PrintWords.Aside0.mk (cK_go d (k+1+(j+1)) (by rw [← HX1.out,show k+1+(j+1) - 1=k+1+j from rfl,← HX2.out];exact hv))
                have HX3:=YtcgbgifbajdhpaaGreatDoorW.PrintWords.Aside0.mk (show ∃ x,x=dk[k+1+(j+1)]! from ⟨_,rfl⟩)
                have KQ:=YtcgbgifbajdhpaaGreatDoorW.PrintWords.Aside0.mk (fun (W:World) (S:SWK encJ 2 w blk off dk W) => swk_cell S RR.out HS.out q (by rw [HS.out,← HN.out];omega))
                generalize hx2:dk[k+1+(j+1)]! = x2 at c0 c1 hc hv KK
                generalize dk[k+1+j]! = y2 at g0 g1 hc hv
                have HX4:=YtcgbgifbajdhpaaGreatDoorW.PrintWords.Aside0.mk hx2
                clear hx2
                go_wp2_with fail
                go_quiet_grown (first | (go_at_fn 111;refine Calls.grown_of (hc _ _)))
                have S4:Aside (SWK encJ 2 w blk off dk (grow (wr.drewN nq) osq)):=S3.out.grown nq osq
                clear c0 c1 g0 g1 hc S3
                generalize grow (wr.drewN nq) osq=w3 at S4 ⊢
                clear nq osq
                obtain ⟨p0,p1,_,_⟩:=KK.out w3 S4.out
                obtain ⟨q0,q1,f0,f1⟩:=KQ.out w3 S4.out
                have hqn:(q:Int)<(n:Int):=by omega
                have S5:Aside (SWK encJ 2 w blk off (dk.setIfInBounds q x2) ((w3.setCell ⟨blk,off+q*2,none⟩ (.int .i64 x2.f0)).setCell ⟨blk,off+q*2+1,none⟩ (.int .u64 x2.f1))):=swk_set S4.out RR.out.hblk q (by rw [HS.out,← HN.out];omega) x2
                generalize dk[q]! = y3 at q0 q1
                go_wp2
                go_roundg (M - (j+1))
                case measure => omega
                case rel =>
                  have hqs:q<dk.size:=by rw [HS.out,← HN.out];omega
                  refine ⟨q+1,j+1,dk.setIfInBounds q x2,by go_num,by go_num,by omega,by omega,by omega,Nat.le_refl _,S5,⟨by rw [Array.size_setIfInBounds];exact HS.out⟩,⟨?_,fun t ht => ?_⟩⟩
                  · rw [show k+1+(j+1+1)=k+1+(j+1)+1 from rfl,HX.out,← HQ.out.1,← HX1.out,HX4.out,seg_cat _ (Nat.zero_le q) (Nat.le_succ q),seg_one,seg_congr (d:=dk) (d':=dk.setIfInBounds q x2) (fun t h1 h2 => by simp [getElem!_def,Array.getElem?_setIfInBounds,show ¬ q=t from by omega])]
                    congr 2
                    simp [getElem!_def,hqs]
                  · rw [← HQ.out.2 t (by omega)]
                    simp [getElem!_def,Array.getElem?_setIfInBounds,show ¬ q=t from by omega]
            · have hjM:j+1=M:=by omega
              have HJ:=YtcgbgifbajdhpaaGreatDoorW.PrintWords.Aside0.mk hjM
              have hltz3:¬ (j:Int)+1<(M:Int):=by omega
              have hcl:=clear_run wr blk (off+q*2) (n - q) (cap - q) (fun i hi => by
                have hq2:q+i / 2<dk.size:=by rw [HS.out,← HN.out];omega
                have h3:=(swk_cell S3.out RR.out HS.out (q+i / 2) hq2)
                rcases (show i % 2=0∨i % 2=1 from by omega) with h4 | h4
                · rw [show off+q*2+i=off+(q+i / 2)*2 from by omega,h3.1];rfl
                · rw [show off+q*2+i=off+(q+i / 2)*2+1 from by omega,h3.2.1];rfl) (fun i hi => by
                have hq2:q+i / 2<dk.size:=by rw [HS.out,← HN.out];omega
                have h3:=(swk_cell S3.out RR.out HS.out (q+i / 2) hq2)
                rcases (show i % 2=0∨i % 2=1 from by omega) with h4 | h4
                · rw [show off+q*2+i=off+(q+i / 2)*2 from by omega,h3.2.2.1]
                · rw [show off+q*2+i=off+(q+i / 2)*2+1 from by omega,h3.2.2.2]) (by omega)
              have S6:=swk_clear S3.out RR.out.hblk q (by rw [HS.out,← HN.out];omega)
              rw [HS.out,← HN.out] at S6
              have S7:Aside (SWK encJ 2 w blk off (cutZ dk q) (wr.setCells blk (off+q*2) (zs2 (n - q)))):=S6
              have HQL:YtcgbgifbajdhpaaGreatDoorW.PrintWords.Aside0 ((cK d n).length=q∧segA (cutZ dk q) 0 q=cK d n):=⟨by
                have e:=HQ.out.1
                rw [HJ.out,Nat.add_comm (k+1) M,HM.out] at e
                rw [← e]
                exact ⟨by rw [seg_len,Nat.sub_zero],seg_congr (fun t h1 h2 => by rw [cutZ_get _ _ _ (by rw [HS.out,← HN.out];omega),if_pos h2])⟩⟩
              have hcz2:¬ cap=q:=by omega
              have hqn:q≤n:=by omega
              clear S6 hjM
              go_wp2
              go_ret
              exact ⟨by rw [HQL.out.1];rfl,cutZ dk q,S7.out,by rw [cutZ_size];exact HS.out.trans HN.out.symm,by rw [HQL.out.1];exact HQL.out.2⟩
      · obtain rfl:k+1=n:=by omega
        have hltz:¬ ((k:Int)+1<(k:Int)+1):=by omega
        go_wp2
        go_ret
        exact ⟨by rw [HE.out,seg_len,Nat.sub_zero];rfl,d,S1.out,HN.out.symm,by rw [HE.out,seg_len,Nat.sub_zero]⟩
end Go.Proofs.YtcgbgifbajdhpaaGreatDoor.PA
namespace Go.Proofs.YtcgbgifbajdhpaaGreatDoor.PA
open Go.Sort
def Rs (l:List S70):Prop:=l.Pairwise (fun x y => x.f0<y.f0)
def at_ (v:Int) (l:List S70):List S70:=l.filter (fun x => decide (x.f0=v))
theorem at_append (v:Int) (a b:List S70):at_ v (a++b)=at_ v a++at_ v b:=List.filter_append ..
theorem at_none {v:Int} {l:List S70} (h:∀ x ∈ l,x.f0 ≠ v):at_ v l=[]:=by
  unfold at_
  rw [List.filter_eq_nil_iff]
  intro x hx
  simpa using h x hx
theorem at_cons (v:Int) (x:S70) (l:List S70):at_ v (x :: l)=if x.f0=v then x :: at_ v l else at_ v l:=by
  unfold at_
  rw [List.filter_cons]
  simp
theorem Rs_ext:∀ (a b:List S70),Rs a→Rs b→(∀ v,at_ v a=at_ v b)→a=b
  | [],[],_,_,_ => rfl
  | [],y :: b,_,_,h => by
    have:=h y.f0
    rw [at_cons,if_pos rfl] at this
    simp [at_] at this
  | x :: a,[],_,_,h => by
    have:=h x.f0
    rw [at_cons,if_pos rfl] at this
    simp [at_] at this
  | x :: a,y :: b,ha,hb,h => by
    have ha':=List.pairwise_cons.1 ha
    have hb':=List.pairwise_cons.1 hb
    have na:∀ v,v≤x.f0→at_ v a=[]:=fun v hv => at_none (fun z hz => by have:=ha'.1 z hz;omega)
    have nb:∀ v,v≤y.f0→at_ v b=[]:=fun v hv => at_none (fun z hz => by have:=hb'.1 z hz;omega)
    have hxy:x.f0=y.f0:=by
      rcases Int.lt_trichotomy x.f0 y.f0 with h1 | h1 | h1
      · have:=h x.f0
        rw [at_cons,if_pos rfl,at_cons,if_neg (by omega),nb _ (by omega)] at this
        simp at this
      · exact h1
      · have:=h y.f0
        rw [at_cons,if_neg (by omega),at_cons,if_pos rfl,na _ (by omega)] at this
        simp at this
    have he:x=y:=by
      have:=h x.f0
      rw [at_cons,if_pos rfl,at_cons,if_pos hxy.symm,na _ (Int.le_refl _),nb _ (by omega)] at this
      simpa using this
    subst he
    rw [Rs_ext a b ha'.2 hb'.2 (fun v => by
      have:=h v
      rw [at_cons,at_cons] at this
      split at this
      · exact (List.cons.inj this).2
      · exact this)]
def posS (l:List S70) (t:Int):Nat→Nat
  | 0 => 0
  | j+1 => if t≤(l.getD j z70).f0 then posS l t j else j+1
def setL (l:List S70) (s:S70):List S70 :=
  if posS l s.f0 l.length<l.length∧(l.getD (posS l s.f0 l.length) z70).f0=s.f0 then l.set (posS l s.f0 l.length) s else l.take (posS l s.f0 l.length)++s :: l.drop (posS l s.f0 l.length)
theorem posS_le (l:List S70) (t:Int):∀ j,posS l t j≤j
  | 0 => Nat.le_refl _
  | j+1 => by
    rw [posS]
    split
    · exact Nat.le_succ_of_le (posS_le l t j)
    · exact Nat.le_refl _
theorem posS_spec (l:List S70) (t:Int):∀ j,(0<posS l t j→(l.getD (posS l t j - 1) z70).f0<t)∧∀ i,posS l t j≤i→i<j→t≤(l.getD i z70).f0
  | 0 => ⟨fun h => by rw [posS] at h;omega,fun i _ h => by omega⟩
  | j + 1 => by
    rw [posS]
    by_cases h:t≤(l.getD j z70).f0
    · rw [if_pos h]
      obtain ⟨h1,h2⟩:=posS_spec l t j
      refine ⟨h1,fun i h3 h4 => ?_⟩
      rcases Nat.lt_or_ge i j with h5 | h5
      · exact h2 i h3 h5
      · rw [show i=j from by omega];exact h
    · rw [if_neg h]
      exact ⟨fun _ => by rw [Nat.add_sub_cancel];omega,fun i h3 h4 => by omega⟩
theorem Rs_get {l:List S70} (h:Rs l) {i j:Nat} (hij:i<j) (hj:j<l.length):(l.getD i z70).f0<(l.getD j z70).f0:=by
  have:=List.pairwise_iff_getElem.1 h i j (by omega) hj hij
  simpa [List.getD_eq_getElem?_getD,List.getElem?_eq_getElem (show i<l.length by omega),List.getElem?_eq_getElem hj] using this
theorem setL_parts {l:List S70} (h:Rs l) (s:S70):∃ a b,(∀ x ∈ a,x.f0<s.f0)∧(∀ x ∈ b,s.f0<x.f0)∧setL l s=a++s :: b∧Rs a∧Rs b∧(l=a++b∨∃ y,y.f0=s.f0∧l=a++y :: b):=by
  obtain ⟨p,hp⟩:∃ p,p=posS l s.f0 l.length:=⟨_,rfl⟩
  have hle:p≤l.length:=by rw [hp];exact posS_le _ _ _
  obtain ⟨h1,h2⟩:=posS_spec l s.f0 l.length
  rw [← hp] at h1 h2
  have ht:∀ x ∈ l.take p,x.f0<s.f0:=fun x hx => by
    obtain ⟨i,hi,rfl⟩:=List.mem_iff_getElem.1 hx
    rw [List.length_take] at hi
    rw [List.getElem_take]
    have h3:=h1 (by omega)
    have e:l[i]'(by omega)=l.getD i z70:=by simp [List.getD_eq_getElem?_getD,List.getElem?_eq_getElem (show i<l.length by omega)]
    rw [e]
    rcases Nat.lt_or_ge i (p - 1) with h4 | h4
    · have:=Rs_get h h4 (by omega)
      omega
    · rw [show i=p - 1 from by omega];exact h3
  have hRt:Rs (l.take p):=List.Pairwise.sublist (List.take_sublist _ _) h
  by_cases hc:p<l.length∧(l.getD p z70).f0=s.f0
  · have eL:l.getD p z70=l[p]'hc.1:=by simp [List.getD_eq_getElem?_getD,List.getElem?_eq_getElem hc.1]
    refine ⟨l.take p,l.drop (p+1),ht,fun x hx => ?_,?_,hRt,List.Pairwise.sublist (List.drop_sublist _ _) h,.inr ⟨l[p]'hc.1,by rw [← eL];exact hc.2,by rw [← List.drop_eq_getElem_cons hc.1,List.take_append_drop]⟩⟩
    · obtain ⟨i,hi,rfl⟩:=List.mem_iff_getElem.1 hx
      rw [List.length_drop] at hi
      rw [List.getElem_drop]
      have:=Rs_get h (show p<p+1+i by omega) (by omega)
      rw [hc.2] at this
      simpa [List.getD_eq_getElem?_getD,List.getElem?_eq_getElem (show p+1+i<l.length by omega)] using this
    · unfold setL
      rw [← hp,if_pos hc,List.set_eq_take_append_cons_drop,if_pos hc.1]
  · refine ⟨l.take p,l.drop p,ht,fun x hx => ?_,?_,hRt,List.Pairwise.sublist (List.drop_sublist _ _) h,.inl (by rw [List.take_append_drop])⟩
    · obtain ⟨i,hi,rfl⟩:=List.mem_iff_getElem.1 hx
      rw [List.length_drop] at hi
      rw [List.getElem_drop]
      have e:l[p+i]'(by omega)=l.getD (p+i) z70:=by simp [List.getD_eq_getElem?_getD,List.getElem?_eq_getElem (show p+i<l.length by omega)]
      rw [e]
      have h0:=h2 p (Nat.le_refl _) (by omega)
      have h0':s.f0<(l.getD p z70).f0:=by
        rcases Int.lt_or_eq_of_le h0 with h5 | h5
        · exact h5
        · exact absurd ⟨by omega,h5.symm⟩ hc
      rcases Nat.eq_zero_or_pos i with h6 | h6
      · rw [h6];exact h0'
      · have:=Rs_get h (show p<p+i by omega) (by omega)
        omega
    · unfold setL
      rw [← hp,if_neg hc]
theorem Rs_mid {a b:List S70} {s:S70} (ha:∀ x ∈ a,x.f0<s.f0) (hb:∀ x ∈ b,s.f0<x.f0) (h1:Rs a) (h2:Rs b):Rs (a++s :: b):=by
  refine List.pairwise_append.2 ⟨h1,List.pairwise_cons.2 ⟨hb,h2⟩,fun x hx y hy => ?_⟩
  rcases List.mem_cons.1 hy with rfl | hy
  · exact ha x hx
  · have:=ha x hx
    have:=hb y hy
    omega
theorem setL_Rs {l:List S70} (h:Rs l) (s:S70):Rs (setL l s):=by
  obtain ⟨a,b,ha,hb,he,h1,h2,_⟩:=setL_parts h s
  rw [he]
  exact Rs_mid ha hb h1 h2
theorem setL_at {l:List S70} (h:Rs l) (s:S70) (v:Int):at_ v (setL l s)=if s.f0=v then [s] else at_ v l:=by
  obtain ⟨a,b,ha,hb,he,h1,h2,hl⟩:=setL_parts h s
  rw [he,at_append,at_cons]
  by_cases hv:s.f0=v
  · rw [if_pos hv,if_pos hv,at_none (fun x hx => by have:=ha x hx;omega),at_none (fun x hx => by have:=hb x hx;omega)]
    rfl
  · rw [if_neg hv,if_neg hv]
    rcases hl with hl | ⟨y,hy,hl⟩
    · rw [hl,at_append]
    · rw [hl,at_append,at_cons,if_neg (by omega)]
def setAll (l:List S70) (xs:List S70):List S70:=xs.foldl setL l
def risenL (xs:List S70):List S70:=setAll [] xs
theorem setAll_Rs:∀ (xs l:List S70),Rs l→Rs (setAll l xs)
  | [],_,h => h
  | x :: xs,l,h => setAll_Rs xs (setL l x) (setL_Rs h x)
theorem setAll_at (v:Int):∀ (xs l:List S70),Rs l→at_ v (setAll l xs)=((at_ v l++at_ v xs).getLast?).toList∨(at_ v xs=[] ∧ at_ v (setAll l xs)=at_ v l)
  | [],l,h => .inr ⟨rfl,rfl⟩
  | x :: xs,l,h => by
    have ih:=setAll_at v xs (setL l x) (setL_Rs h x)
    rw [setL_at h] at ih
    rw [at_cons]
    show at_ v (setAll (setL l x) xs)=_∨_∧at_ v (setAll (setL l x) xs)=_
    by_cases hv:x.f0=v
    · rw [if_pos hv] at ih ⊢
      refine .inl ?_
      rcases ih with ih | ⟨h1,ih⟩
      · rw [ih]
        simp [List.getLast?_append,List.getLast?_cons]
      · rw [ih,h1]
        simp
    · rw [if_neg hv] at ih ⊢
      exact ih
theorem Rs_nil:Rs []:=List.Pairwise.nil
theorem risenL_Rs (xs:List S70):Rs (risenL xs):=setAll_Rs xs [] Rs_nil
theorem risenL_at (v:Int) (xs:List S70):at_ v (risenL xs)=((at_ v xs).getLast?).toList:=by
  rcases setAll_at v xs [] Rs_nil with h | ⟨h1,h⟩
  · exact h
  · rw [risenL,h,h1]
    rfl
theorem cK_spec (d:Array S70) (hs:Srt keyP d 0 d.size):∀ i,i≤d.size→Rs (cK d i)∧(∀ x ∈ cK d i,∃ j,j<i∧d[j]! = x)∧∀ v,at_ v (cK d i)=((at_ v (segA d 0 i)).head?).toList
  | 0,_ => ⟨Rs_nil,(fun x h => by cases h),fun v => rfl⟩
  | i + 1, hi => by
    obtain ⟨h1,h2,h3⟩:=cK_spec d hs i (by omega)
    have hseg:segA d 0 (i+1)=segA d 0 i ++ [d[i]!]:=by rw [seg_cat d (Nat.zero_le i) (Nat.le_succ i),seg_one]
    rw [cK]
    by_cases hc:i=0∨d[i]!.f0 ≠ d[i - 1]!.f0
    · rw [if_pos hc]
      have hlt:∀ j,j<i→d[j]!.f0<d[i]!.f0:=fun j hj => by
        have k1:keyP d[i - 1]! ≤ keyP d[i]! := hs (i - 1) i (Nat.zero_le _) (by omega) (by omega)
        have k2:keyP d[j]! ≤ keyP d[i - 1]! := by
          rcases Nat.lt_or_ge j (i - 1) with k | k
          · exact hs j (i - 1) (Nat.zero_le _) k (by omega)
          · rw [show j=i - 1 from by omega];exact Int.le_refl _
        have k3:d[i]!.f0 ≠ d[i - 1]!.f0:=by
          rcases hc with hc | hc
          · omega
          · exact hc
        unfold keyP at k1 k2
        omega
      refine ⟨Rs_mid (b:=[]) (fun x hx => ?_) (fun x hx => by cases hx) h1 Rs_nil,fun x hx => ?_,fun v => ?_⟩
      · obtain ⟨j,hj,rfl⟩:=h2 x hx
        exact hlt j hj
      · rcases List.mem_append.1 hx with hx | hx
        · obtain ⟨j,hj,he⟩:=h2 x hx
          exact ⟨j,by omega,he⟩
        · rw [List.mem_singleton] at hx
          exact ⟨i,by omega,hx.symm⟩
      · rw [hseg,at_append,at_append,h3,at_cons]
        by_cases hv:d[i]!.f0=v
        · rw [if_pos hv]
          have hn:at_ v (segA d 0 i)=[]:=at_none (fun x hx => by
            obtain ⟨t,_,ht,rfl⟩:=mem_seg.1 hx
            have:=hlt t ht
            omega)
          rw [hn]
          rfl
        · rw [if_neg hv]
          simp [at_]
    · rw [if_neg hc]
      have hc1:0<i:=by rcases Nat.eq_zero_or_pos i with h | h;exact absurd (.inl h) hc;exact h
      have hc2:d[i]!.f0=d[i - 1]!.f0:=Classical.not_not.1 (fun h => hc (.inr h))
      refine ⟨h1,fun x hx => ?_,fun v => ?_⟩
      · obtain ⟨j,hj,he⟩:=h2 x hx
        exact ⟨j,by omega,he⟩
      · rw [h3,hseg,at_append,at_cons]
        by_cases hv:d[i]!.f0=v
        · have hm:d[i - 1]! ∈ at_ v (segA d 0 i):=List.mem_filter.2 ⟨mem_seg.2 ⟨i - 1,Nat.zero_le _,by omega,rfl⟩,by simp;omega⟩
          match hs2:at_ v (segA d 0 i) with
          | [] => rw [hs2] at hm;cases hm
          | y :: r => rfl
        · rw [if_neg hv]
          simp [at_]
theorem risen_done (d d':Array S70) (hm:MG keyP d.reverse 0 d.reverse.size d') (hs:Srt keyP d' 0 d'.size):cK d' d'.size=risenL d.toList:=by
  obtain ⟨h1,_,h3⟩:=cK_spec d' hs d'.size (Nat.le_refl _)
  refine Rs_ext _ _ h1 (risenL_Rs _) (fun v => ?_)
  rw [h3,risenL_at]
  have e:=hm.2.2 v
  rw [← hm.1] at e
  rw [hm.1] at e
  have e2:at_ v (segA d' 0 d'.size)=at_ v d.toList.reverse:=by
    have h4:=hm.2.2 v
    rw [seg_all,← hm.1,seg_all] at h4
    rw [seg_all]
    have h5:at_ v d'.toList=at_ v d.reverse.toList:=h4
    rw [h5,Array.toList_reverse]
  rw [e2]
  unfold at_
  rw [List.filter_reverse,List.head?_reverse]
end Go.Proofs.YtcgbgifbajdhpaaGreatDoor.PA
namespace Go.Proofs.YtcgbgifbajdhpaaGreatDoor.PA
open Go.RowKit Go.Proofs.YtcgbgifbajdhpaaGreatDoor.G Go.Proofs.YtcgbgifbajdhpaaGreatDoorW.PrintWords Go.Proofs.YtcgbgifbajdhpaaGreatDoorW.PrintLast Go.Proofs.YtcgbgifbajdhpaaGreatDoorW.PrintMore
def flatP (l:List S70):List Value:=l.flatMap encJ
theorem flatP_cons (x:S70) (l:List S70):flatP (x :: l) = .int .i64 x.f0 :: .int .u64 x.f1 :: flatP l:=rfl
theorem flatP_len:∀ (l:List S70),(flatP l).length=l.length*2
  | [] => rfl
  | x :: l => by rw [flatP_cons,List.length_cons,List.length_cons,flatP_len l,List.length_cons];omega
theorem flatP_get:∀ (l:List S70) (j:Nat),j<l.length*2→(flatP l)[j]? = (encJ (l.getD (j / 2) z70))[j % 2]?
  | [],j,h => by simp at h
  | x :: l,0,_ => rfl
  | x :: l,1,_ => rfl
  | x :: l,j+2,h => by
    rw [flatP_cons,List.getElem?_cons_succ,List.getElem?_cons_succ,flatP_get l j (by rw [List.length_cons] at h;omega),show (j+2) / 2=j / 2+1 from by omega,show (j+2) % 2=j % 2 from by omega]
    rfl
theorem getD_arr (d:Array S70) (i:Nat):d.toList.getD i z70=d[i]! := by
  rw [List.getD_eq_getElem?_getD,getElem!_def]
  simp only [Array.getElem?_toList]
  cases d[i]? <;> rfl
theorem encJ_get (x:S70) (j:Nat) (h:j<2):(encJ x)[j]? = some (encJ x)[j]! := by
  rcases (show j=0∨j=1 from by omega) with rfl | rfl <;> rfl
theorem own_row {w:World} {base g cap:Nat} {l:List S70} (h:w.ownsRow base 70 2 (.slice (some ⟨g,0,none⟩) l.length cap) l.length (flatP l)) (h0:0<l.length):Go.Proofs.RowK encJ 2 w g 0 l.toArray∧l.length≤cap∧cap≤maxLen∧base≤g∧∃ cur,w.heap[g]? = some (.cells cur 70 (0,0))∧cur.size=cap*2:=by
  rcases h.2 with ⟨_,h1⟩ | ⟨g',cap',cur,he,hb,hh,h1,h2,h3,h4⟩
  · omega
  · have he':g=g'∧cap=cap':=by simpa using he
    obtain ⟨rfl,rfl⟩:=he'
    refine ⟨⟨encJ_len,encJ_one,fun j hj => ?_,blk_lt hh⟩,h1,h2,hb,cur,hh,h3⟩
    rw [Sort.size_flatK] at hj
    have hj':j<l.length*2:=by simpa using hj
    refine ⟨?_,blk_frozen hh _⟩
    rw [Nat.zero_add,blk_cell hh,Sort.get_flatK _ _ _ _ hj]
    have e1:cur[j]? = (flatP l)[j]? := by
      rw [← h4,List.getElem?_take,if_pos hj']
      simp
    rw [e1,flatP_get l j hj',encJ_get _ _ (Nat.mod_lt _ (by omega))]
    have e2:l.getD (j / 2) z70=l.toArray[j / 2]! := by rw [← getD_arr]
    rw [e2]
    rfl
theorem swk_block {w W:World} {g:Nat} {d:Array S70} (h:SWK encJ 2 w g 0 d W) (hg:g<w.heap.size) {cur:Array Value} (hh:w.heap[g]? = some (.cells cur 70 (0,0))) :
    w.grownBy W (some g)∧∃ cur',W.heap[g]? = some (.cells cur' 70 (0,0))∧cur'.size=cur.size:=by
  obtain ⟨n,os,rfl⟩:=h
  refine ⟨⟨rfl,rfl,rfl,by unfold Go.Proofs.sortWorldK Sort.putRowK Sort.grow;simp [Sort.ahead],fun k hk hne => ?_⟩,?_⟩
  · unfold Go.Proofs.sortWorldK Sort.putRowK
    rw [Sort.heap_grow_old _ _ (by simp;exact hk)]
    show (Sort.mapBlock _ g _).heap[k]? = _
    unfold Sort.mapBlock
    simp [Array.getElem?_modify,Sort.ahead]
    intro e
    exact absurd (by rw [e]) hne
  · unfold Go.Proofs.sortWorldK Sort.putRowK
    rw [Sort.heap_grow_old _ _ (by simp;exact hg)]
    show ∃ cur',(Sort.mapBlock _ g _).heap[g]? = _∧_
    unfold Sort.mapBlock
    have hh':(Sort.ahead w n).heap[g]? = some (.cells cur 70 (0,0)):=hh
    refine ⟨_,by rw [Array.getElem?_modify,if_pos rfl,hh'];rfl,?_⟩
    simp [Sort.putCells]
theorem swk_owns {w W:World} {base g cap m:Nat} {d:Array S70} (h:SWK encJ 2 w g 0 d W) (hg:g<w.heap.size) {cur:Array Value} (hh:w.heap[g]? = some (.cells cur 70 (0,0))) (hc:cur.size=cap*2) {d0:Array S70} (R:Go.Proofs.RowK encJ 2 w g 0 d0) (hs:d.size=d0.size) (hb:base≤g) (hm:m≤d.size) (hd:d.size≤cap) (hx:cap≤maxLen) :
    W.ownsRow base 70 2 (.slice (some ⟨g,0,none⟩) m cap) m (flatP (segA d 0 m)):=by
  obtain ⟨_,cur',h1,h2⟩:=swk_block h hg hh
  have hl:(segA d 0 m).length=m:=by rw [seg_len,Nat.sub_zero]
  refine ⟨by rw [flatP_len,hl],.inr ⟨g,cap,cur',rfl,hb,h1,by omega,hx,by omega,?_⟩⟩
  apply List.ext_getElem?
  intro j
  by_cases hj:j<m*2
  · have hH:=h.holds R.hblk R.hH hs
    have hc2:=(hH j (by rw [Sort.size_flatK];omega)).1
    rw [Nat.zero_add,blk_cell h1,Sort.get_flatK _ _ _ _ (by omega)] at hc2
    rw [List.getElem?_take,if_pos hj,flatP_get _ _ (by rw [hl];exact hj),encJ_get _ _ (Nat.mod_lt _ (by omega))]
    have e2:(segA d 0 m).getD (j / 2) z70=d[j / 2]! := by
      rw [List.getD_eq_getElem?_getD]
      unfold segA
      simp [show j / 2<m from by omega]
    rw [e2]
    simpa using hc2
  · rw [List.getElem?_eq_none (by rw [List.length_take];omega),List.getElem?_eq_none (by rw [flatP_len,hl];omega)]
theorem chunkRisen.calls (base g cap:Nat) (l:List S70) (w:World) (h:w.ownsRow base 70 2 (.slice (some ⟨g,0,none⟩) l.length cap) l.length (flatP l)) (h0:0<l.length) (hl:l.length≤1000000) :
    Calls Tryz.prog 73 #[.slice (some ⟨g,0,none⟩) l.length cap] w fun e w' => e = .returned (.slice (some ⟨g,0,none⟩) (risenL l).length cap)∧w'.ownsRow base 70 2 (.slice (some ⟨g,0,none⟩) (risenL l).length cap) (risenL l).length (flatP (risenL l))∧w.grownBy w' (some g):=by
  obtain ⟨R,h1,h2,hb,cur,hh,hc⟩:=own_row h h0
  have HR:=Aside0.mk R
  have HH:=Aside0.mk (And.intro hh hc)
  have hsz:l.toArray.size=l.length:=by simp
  have C1:=revP.calls g 0 cap l.toArray w R (by rw [hsz];omega)
  rw [hsz] at C1
  have HC1:=Aside0.mk C1
  have HSZ:=Aside0.mk hsz
  have HSR:Aside0 (l.toArray.reverse.size=l.length):=⟨by simp⟩
  have HX:=Aside0.mk (show g<w.heap.size from R.hblk)
  have HCP:=Aside0.mk (And.intro h1 (And.intro h2 hb))
  have hl2:l.length<1152921504606846976:=by omega
  clear h hh hc R C1 hsz h1 h2 hb h0
  generalize hn:l.length=n at *
  have HN:=Aside0.mk hn
  clear hn
  go_enter Tryz.func73,Tryz.ntmps73
  go_upto_region 2 with (first | (go_at_call 107;refine HC1.out.mono ?_;rintro _ w1 ⟨rfl,hS⟩;have S1:Aside0 (SWK encJ 2 w g 0 l.toArray.reverse w1):=⟨hS⟩;clear hS))
  have hc2:=sortStable.calls 108 cfP keyP cfP_key cmpP.enters cmpP.lays g 0 cap l.toArray.reverse w1 (SWK.row S1.out HR.out (by rw [HSR.out,HSZ.out])) (by rw [HSR.out];exact hl2)
  rw [HSR.out] at hc2
  have HC2:=Aside0.mk hc2
  clear hc2
  go_upto_region 4 with (first | (go_at_call 109;refine HC2.out.mono ?_;rintro _ w2 ⟨rfl,d2,hS,hm,hs⟩;have S2:Aside0 (SWK encJ 2 w1 g 0 d2 w2):=⟨hS⟩;have M2:=Aside0.mk (And.intro hm hs);clear hS hm hs))
  have HS2:Aside0 (d2.size=n):=⟨M2.out.1.1.trans HSR.out⟩
  have S3:Aside0 (SWK encJ 2 w g 0 d2 w2):=Aside0.mk (SWK.trans S1.out HX.out S2.out M2.out.1.1)
  have hc3:=compactP.calls g 0 cap d2 w2 (SWK.row S3.out HR.out (by rw [HS2.out,HSZ.out])) (by rw [HS2.out];exact HCP.out.1) (by rw [HS2.out];exact hl2)
  have he:cK d2 d2.size=risenL l:=by
    have:=risen_done l.toArray d2 (by rw [HSR.out];exact M2.out.1) (by rw [HS2.out];exact M2.out.2)
    rw [this]
  rw [he,HS2.out] at hc3
  have HC3:=Aside0.mk hc3
  have HE:=Aside0.mk (show (risenL l).length≤n from by rw [← he];exact Nat.le_trans (cK_le d2 _) (by rw [HS2.out];exact Nat.le_refl _))
  clear hc3 he
  go_wp2_with (first | (go_at_call 110;refine HC3.out.mono ?_;rintro _ w3 ⟨rfl,d3,hS,hs3,hseg⟩;have S4:Aside0 (SWK encJ 2 w2 g 0 d3 w3):=⟨hS⟩;have M4:=Aside0.mk (And.intro hs3 hseg);clear hS hs3 hseg))
  go_ret
  have S5:=SWK.trans S3.out HX.out S4.out (M4.out.1.trans HS2.out.symm)
  refine ⟨rfl,?_,(swk_block S5 HX.out HH.out.1).1⟩
  have:=swk_owns S5 (base:=base) (m:=(risenL l).length) (cap:=cap) HX.out HH.out.1 HH.out.2 HR.out (by rw [M4.out.1,HSZ.out]) HCP.out.2.2 (by rw [M4.out.1];exact HE.out) (by rw [M4.out.1];exact HCP.out.1) HCP.out.2.1
  rw [M4.out.2] at this
  exact this
def insG (G:List S51) (i:Nat) (t:List S68):List S51:=G.take i ++ [⟨t,[]⟩] ++ G.drop i
def addG (G:List S51) (i:Nat) (ss:List S70):List S51:=G.set i ⟨(rd_T51 G (i:Int)).f0,(rd_T51 G (i:Int)).f1++ss⟩
def hasG (G:List S51) (t:List S68):Bool:=decide (posB G t<G.length) && decide (cmpL (rd_T51 G (posB G t:Int)).f0 t=0)
def putG (G:List S51) (t:List S68):List S51:=if hasG G t=true then G else insG G (posB G t) t
def stepG (G:List S51) (s:S51):List S51:=if s.f1.length=0 then G else addG (putG G s.f0) (posB G s.f0) s.f1
def groupsL (l:List S51):List S51:=l.foldl stepG []
def joinL (l:List S51):List S51:=(groupsL l).map (fun x => ⟨x.f0,risenL x.f1⟩)
theorem groupsL_snoc (l:List S51) (x:S51):groupsL (l ++ [x])=stepG (groupsL l) x:=by simp [groupsL,List.foldl_append]
theorem rd_getElem {l:List S51} {i:Nat} (h:i<l.length):rd_T51 l (i:Int)=l[i]:=by simp [rd_T51,List.getD_eq_getElem?_getD,List.getElem?_eq_getElem h]
theorem hasG_lt {G:List S51} {t:List S68} (h:hasG G t=true):posB G t<G.length∧(rd_T51 G (posB G t:Int)).f0=t:=by
  unfold hasG at h
  rw [Bool.and_eq_true,decide_eq_true_iff,decide_eq_true_iff] at h
  exact ⟨h.1,(cmpL_eq0 _ _).1 h.2⟩
theorem putG_lt (G:List S51) (t:List S68):posB G t<(putG G t).length∧(rd_T51 (putG G t) (posB G t:Int)).f0=t:=by
  unfold putG
  by_cases h:hasG G t=true
  · rw [if_pos h];exact hasG_lt h
  · rw [if_neg h]
    have hp:=posB_le G t
    have hl:posB G t<(insG G (posB G t) t).length:=by unfold insG;simp;omega
    refine ⟨hl,?_⟩
    rw [rd_getElem hl]
    unfold insG at hl ⊢
    rw [List.getElem_append_left (by simp;omega),List.getElem_append_right (by simp;omega)]
    simp
theorem SrtL_insG {G:List S51} (h:SrtL G) {t:List S68} (hn:hasG G t=false):SrtL (insG G (posB G t) t):=by
  have hp:=posB_le G t
  have hgt:∀ i,posB G t≤i→(hi:i<G.length)→cmpL t G[i].f0<0:=fun i h1 hi => by
    have h0:=posB_at G t (by omega)
    have h2:cmpL (rd_T51 G (posB G t:Int)).f0 t ≠ 0:=fun e => by
      unfold hasG at hn
      rw [e] at hn
      simp at hn
      omega
    have h3:cmpL t (rd_T51 G (posB G t:Int)).f0<0:=by rw [cmpL_swap];omega
    rcases Nat.lt_or_eq_of_le h1 with h4 | h4
    · have h5:=SrtL_get h h4 hi
      rw [rd_getElem hi] at h5
      exact cmpL_trans _ _ _ h3 h5
    · rw [← rd_getElem hi,← h4]
      exact h3
  unfold insG
  unfold SrtL at h ⊢
  have hh:=h
  rw [← List.take_append_drop (posB G t) G] at hh
  obtain ⟨p1,p2,p3⟩:=List.pairwise_append.1 hh
  refine List.pairwise_append.2 ⟨List.pairwise_append.2 ⟨p1,List.pairwise_singleton _ _,fun a ha b hb => ?_⟩,p2,fun a ha b hb => ?_⟩
  · rw [List.mem_singleton] at hb
    subst hb
    obtain ⟨i,hi,rfl⟩:=List.mem_iff_getElem.1 ha
    rw [List.length_take] at hi
    rw [List.getElem_take]
    have:=posB_lt G t i (by omega)
    rw [rd_getElem (by omega)] at this
    exact this
  · rcases List.mem_append.1 ha with ha | ha
    · exact p3 a ha b hb
    · rw [List.mem_singleton] at ha
      subst ha
      obtain ⟨i,hi,rfl⟩:=List.mem_iff_getElem.1 hb
      rw [List.length_drop] at hi
      rw [List.getElem_drop]
      exact hgt _ (by omega) (by omega)
theorem SrtL_putG {G:List S51} (h:SrtL G) (t:List S68):SrtL (putG G t):=by
  unfold putG
  by_cases hh:hasG G t=true
  · rw [if_pos hh];exact h
  · rw [if_neg hh];exact SrtL_insG h (by simpa using hh)
theorem SrtL_map {G H:List S51} (h:SrtL G) (he:H.map (·.f0)=G.map (·.f0)):SrtL H:=by
  have h1:(G.map (·.f0)).Pairwise (fun a b => cmpL a b<0):=List.pairwise_map.2 h
  rw [← he] at h1
  exact List.pairwise_map.1 h1
theorem addG_f0 (G:List S51) (i:Nat) (ss:List S70):(addG G i ss).map (·.f0)=G.map (·.f0):=by
  unfold addG
  rw [List.map_set]
  apply List.ext_getElem
  · simp
  · intro j h1 h2
    rw [List.getElem_set]
    split
    · rename_i hij
      subst hij
      simp at h2 ⊢
      rw [rd_getElem h2]
    · rfl
theorem SrtL_stepG {G:List S51} (h:SrtL G) (s:S51):SrtL (stepG G s):=by
  unfold stepG
  split
  · exact h
  · exact SrtL_map (SrtL_putG h s.f0) (addG_f0 _ _ _)
theorem SrtL_nil:SrtL []:=List.Pairwise.nil
theorem SrtL_fold:∀ (l G:List S51),SrtL G→SrtL (l.foldl stepG G)
  | [],_,h => h
  | x :: l,G,h => SrtL_fold l _ (SrtL_stepG h x)
theorem SrtL_groups (l:List S51):SrtL (groupsL l):=SrtL_fold l [] SrtL_nil
theorem putG_len (G:List S51) (t:List S68):(putG G t).length≤G.length+1:=by
  unfold putG insG
  split
  · omega
  · simp;omega
theorem stepG_len (G:List S51) (s:S51):(stepG G s).length≤G.length+1:=by
  unfold stepG
  split
  · omega
  · unfold addG;rw [List.length_set];exact putG_len G s.f0
theorem putG_mem {G:List S51} {t:List S68} {x:S51} (h:x ∈ putG G t):x ∈ G∨x=⟨t,[]⟩:=by
  unfold putG at h
  split at h
  · exact .inl h
  · unfold insG at h
    rcases List.mem_append.1 h with h | h
    · rcases List.mem_append.1 h with h | h
      · exact .inl (List.mem_of_mem_take h)
      · exact .inr (by simpa using h)
    · exact .inl (List.mem_of_mem_drop h)
theorem putG_other (G:List S51) (t:List S68) (j:Nat) (hj:j<(putG G t).length) (hne:posB G t ≠ j):(putG G t)[j] ∈ G:=by
  have hp:=posB_le G t
  unfold putG at hj ⊢
  by_cases hh:hasG G t=true
  · simp only [if_pos hh] at hj ⊢
    exact List.getElem_mem hj
  · simp only [if_neg hh] at hj ⊢
    unfold insG at hj ⊢
    rcases Nat.lt_or_ge j (posB G t) with h | h
    · rw [List.getElem_append_left (by simp;omega),List.getElem_append_left (by simp;omega),List.getElem_take]
      exact List.getElem_mem _
    · rw [List.getElem_append_right (by simp;omega),List.getElem_drop]
      exact List.getElem_mem _
theorem stepG_all {P:S51→Prop} {G:List S51} {s:S51} (h:∀ x ∈ G,P x) (h0:s.f1.length ≠ 0→P ⟨s.f0,s.f1⟩) (h1:s.f1.length ≠ 0→∀ x ∈ G,x.f0=s.f0→P ⟨s.f0,x.f1++s.f1⟩):∀ x ∈ stepG G s,P x:=by
  intro x hx
  unfold stepG at hx
  split at hx
  · exact h x hx
  · rename_i hs
    obtain ⟨hp,hf⟩:=putG_lt G s.f0
    obtain ⟨j,hj,rfl⟩:=List.mem_iff_getElem.1 hx
    have hj':j<(putG G s.f0).length:=by unfold addG at hj;rw [List.length_set] at hj;exact hj
    clear hx
    unfold addG at hj ⊢
    rw [List.getElem_set]
    split
    · rename_i hij
      have hm:rd_T51 (putG G s.f0) (posB G s.f0:Int) ∈ putG G s.f0:=by rw [rd_getElem hp];exact List.getElem_mem hp
      rcases putG_mem hm with hm | hm
      · rw [hf];exact h1 hs _ hm hf
      · rw [hf,hm];exact h0 hs
    · rename_i hij
      exact h _ (putG_other G s.f0 j hj' hij)
theorem fold_all {P:S51→Prop}:∀ (l G:List S51),(∀ x ∈ G,P x)→(∀ s ∈ l,s.f1.length ≠ 0→P ⟨s.f0,s.f1⟩)→(∀ s ∈ l,s.f1.length ≠ 0→∀ a,P ⟨s.f0,a⟩→P ⟨s.f0,a++s.f1⟩)→∀ x ∈ l.foldl stepG G,P x
  | [],_,h,_,_ => h
  | s :: l,G,h,h0,h1 => fold_all l _ (stepG_all h (fun hs => h0 s (List.mem_cons_self ..) hs) (fun hs x hx hf => by
      have:=h1 s (List.mem_cons_self ..) hs x.f1
      rw [← hf] at this ⊢
      exact this (h x hx))) (fun x hx => h0 x (List.mem_cons_of_mem _ hx)) (fun x hx => h1 x (List.mem_cons_of_mem _ hx))
theorem groups_pos (l:List S51):∀ x ∈ groupsL l,x.f1.length ≠ 0:=fold_all (P:=fun x => x.f1.length ≠ 0) l [] (fun x hx => by cases hx) (fun s _ hs => hs) (fun s _ hs a ha => by show (a++s.f1).length ≠ 0;rw [List.length_append];omega)
theorem groups_lab (l:List S51):∀ x ∈ groupsL l,∃ s ∈ l,x.f0=s.f0:=fold_all (P:=fun x => ∃ s ∈ l,x.f0=s.f0) l [] (fun x hx => by cases hx) (fun s hs _ => ⟨s,hs,rfl⟩) (fun s hs _ a ha => ha)
def tot:List S51→Nat
  | [] => 0
  | x :: l => x.f1.length+tot l
theorem tot_snoc:∀ (l:List S51) (x:S51),tot (l ++ [x])=tot l+x.f1.length
  | [],x => by simp [tot]
  | y :: l,x => by rw [List.cons_append,tot,tot,tot_snoc l x];omega
theorem tot_le_take (l:List S51):∀ k,tot (l.take k)≤tot l:=by
  induction l with
  | nil => intro k;simp
  | cons x l ih =>
    intro k
    cases k with
    | zero => simp [tot]
    | succ k => rw [List.take_succ_cons,tot,tot];have:=ih k;omega
theorem groups_len (l:List S51):∀ k,k≤l.length→(groupsL (l.take k)).length≤k∧∀ x ∈ groupsL (l.take k),x.f1.length≤tot (l.take k)
  | 0,_ => by simp [groupsL]
  | k+1,hk => by
    obtain ⟨h1,h2⟩:=groups_len l k (by omega)
    rw [List.take_succ_eq_append_getElem hk,groupsL_snoc,tot_snoc]
    refine ⟨Nat.le_trans (stepG_len _ _) (by omega),stepG_all (fun x hx => by have:=h2 x hx;omega) (fun _ => by show l[k].f1.length≤_;omega) (fun _ x hx _ => by show (x.f1++l[k].f1).length≤_;rw [List.length_append];have:=h2 x hx;omega)⟩
theorem groups_len' (l:List S51):(groupsL l).length≤l.length∧∀ x ∈ groupsL l,x.f1.length≤tot l:=by
  have:=groups_len l l.length (Nat.le_refl _)
  rwa [List.take_length] at this
end Go.Proofs.YtcgbgifbajdhpaaGreatDoor.PA
