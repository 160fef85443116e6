/- A part of the proof: what the last text of the claim says leans on this one. -/
import Derived.Test.YtjeodgfkilhkhaaGreatZV1
import Derived.Test.YtjeodgfkilhkhaaGreatZA1
import Derived.Test.YtjeodgfkilhkhaaGreatZP1
import Derived.Deep.Slices
import Derived.OpenShut
import Derived.Deep.Strs
set_option linter.unusedVariables false
set_option linter.unusedSimpArgs false
namespace Go.Proofs.YtjeodgfkilhkhaaGreat
open Go.RowKit Go.Proofs.YtjeodgfkilhkhaaGreatW.PrintWords Go.Proofs.YtjeodgfkilhkhaaGreatW.PrintLast Go.Proofs.YtjeodgfkilhkhaaGreatW.PrintMore
section
variable {ops : Array Oper} {rest : List Oper} {o : Oper} {a : Act} {Q : Exit → Act → World → Prop}
theorem Xr {w0 W : World} {g n cap : Nat} {l : List Rec} {r : Rec} (i : Nat) (hn : l.length = n) (hN : o.dst = none) (hgd : o.guard = none) (s x : Operand) (ho : o.op = .store 43 s x)
  (haddr : a.eval s = .pointer (some ⟨g,i * 8,none⟩)) (hx : a.eval x = r.val) (HO : OwnRs W w0.heap.size (.slice (some ⟨g,0,none⟩) n cap) l) (hi : i < n) (HB : Below w0.heap.size w0 W)
  (h : ∀ w1,OwnRs w1 w0.heap.size (.slice (some ⟨g,0,none⟩) n cap) (l.set i r) → Below w0.heap.size w0 w1 → W.grownBy w1 (some g) → wpList Tryz.prog ops Q rest a w1) : wpList Tryz.prog ops Q (o :: rest) a W:=by
 subst hn
 obtain ⟨c,hl,hM,hc,hf⟩:=Kd.JW HO r0 (i : Int) (by omega) (by omega)
 refine Kd.PG kRec w0.heap.size hN hgd 43 s x ho _ (i : Int) 0 l r _ r.cells c (fun _ => True) (fun _ => False) haddr (by rw [Nat.add_zero];rfl) hx rfl (by kernel_rfl) (by simp [Value.oneCell',Rec.cells]) HO (by omega) (by omega) hl hc (Nat.le_refl 8) ?_ (fun k hk => hk.elim) HB (fun w1 h1 h2 h3 => h w1 h1 h2 h3)
 have hl3 : c.length = 8:=hl
 rw [List.take_zero,List.nil_append,List.drop_of_length_le (by simp [hl3,Rec.cells]),List.append_nil]
 exact Lp _ _ _ r
end
theorem rs_form {w : World} {b : Nat} {v : Value} {l : List Rec} (h : OwnRs w b v l) (hn : 0 < l.length) : ∃ g cap,v = .slice (some ⟨g,0,none⟩) l.length cap ∧ b ≤ g ∧ g < w.heap.size:=by
 obtain ⟨g,cap,h1,h2,h3, -⟩:=Kd.Y6 h hn
 exact ⟨g,cap,h1,h2,h3⟩
def MH (w : World) (b : Nat) (vd vm : Value) (ps qs : List Page) : Prop := ∃ okd okm : Nat → Prop,(∀ k,okd k → okm k → False) ∧ Ci w b okd vd ps ∧ Ci w b okm vm qs
theorem FO {w : World} {b g : Nat} {ok : Nat → Prop} {v ud um ul : Value} {ps : List Page} {q : Eng} (h : Ci w b ok v ps) (hq : Ab w g q ud um ul) (j : Nat) (u : Value) : Ci (w.setCell ⟨g,j,none⟩ u) b ok v ps:=
 Kd.R8 h hq (fun q hq => by rcases Hu q hq with rfl | rfl <;> decide) j u
theorem MH.set {w : World} {b g : Nat} {vd vm ud um ul : Value} {ps qs : List Page} {q : Eng} (h : MH w b vd vm ps qs) (hq : Ab w g q ud um ul) (j : Nat) (u : Value) : MH (w.setCell ⟨g,j,none⟩ u) b vd vm ps qs:=by
 obtain ⟨okd,okm,h1,h2,h3⟩:=h
 exact ⟨okd,okm,h1,FO h2 hq j u,FO h3 hq j u⟩
theorem MH.below {w w1 : World} {b : Nat} {vd vm : Value} {ps qs : List Page} (h : MH w b vd vm ps qs) (hb : Below w.heap.size w w1) : MH w1 b vd vm ps qs:=by
 obtain ⟨okd,okm,h1,h2,h3⟩:=h
 exact ⟨okd,okm,h1,Kd.Bg h2 hb,Kd.Bg h3 hb⟩
theorem MH.mk2 {w5 w6 : World} {b : Nat} {vd vm : Value} {ps qs : List Page} (hd : F3 w5 b vd ps) (hm : F3 w6 w5.heap.size vm qs) (hb : Below w5.heap.size w5 w6) (hle : b ≤ w5.heap.size) : MH w6 b vd vm ps qs:=
 ⟨fun k => True ∧ k < w5.heap.size,fun k => w5.heap.size ≤ k,fun k h1 h2 => by omega,Kd.Fe hd hb,Kd.Eb (Kd.Dt (Kd.Dg hm) (fun k hk => hk.2.1)) hle⟩
theorem Aw.Dy {w : World} {b g : Nat} {vd vm vl ud um ul : Value} {e q : Eng} (h : Aw w b vd vm vl e) (hq : Ab w g q ud um ul) (j : Nat) (u : Value) : Aw (w.setCell ⟨g,j,none⟩ u) b vd vm vl e:=h.set hq (by decide) (by decide) (by decide) j u
theorem Ei.far {w : World} {g : Nat} {e : Eng} {vd vm vl : Value} (h : Ei w g e vd vm vl) {b : Nat} (hne : b ≠ g) (j : Nat) (u : Value) : Ei (w.setCell ⟨b,j,none⟩ u) g e vd vm vl:=(Below.heap_setCell w ⟨b,j,none⟩ u g (Ne.symm hne)).trans h
end Go.Proofs.YtjeodgfkilhkhaaGreat
namespace Go.Proofs.YtjeodgfkilhkhaaGreat
open Go.RowKit Go.Proofs.YtjeodgfkilhkhaaGreatW.PrintWords Go.Proofs.YtjeodgfkilhkhaaGreatW.PrintLast Go.Proofs.YtjeodgfkilhkhaaGreatW.PrintMore
theorem Aw.Tc {w w1 : World} {base N : Nat} {vm vl u : Value} {e : Eng} {q : Page} {p g n cap : Nat} {okd okm : Nat → Prop} (hap : ∀ k,okd k → okm k → False) (hm : Ci w base (fun k => okm k ∧ k < N) vm e.mem) (hl : OwnRs w base vl e.log) (hu : AA w N u q.vals)
  (hd : Ci w1 base (fun k => okd k ∨ some k = u.ownBlock) (.slice (some ⟨g,0,none⟩) n cap) (e.disk.set p q)) (hdg : okd g) (hg : w.grownBy w1 (some g)) (hty : ∃ cells,w.heap[g]? = some (.cells cells 47 (0,0))) : Aw w1 base (.slice (some ⟨g,0,none⟩) n cap) vm vl { e with disk:=e.disk.set p q }:=by
 refine ⟨⟨fun k => okd k ∨ some k = u.ownBlock,fun k => okm k ∧ k < N,fun k h1 h2 => ?_,hd,Kd.Tn hm hg (fun k hk e2 => ?_)⟩,?_⟩
 ·rcases h1 with h1 | h1
  ·exact hap k h1 h2.1
  ·have:=BN hu k h1.symm;omega
 ·injection e2 with e2
  subst e2
  exact hap k hdg hk.1
 ·refine Kd.DZ (Kd.PI (e':=47) (v:=.slice (some ⟨g,0,none⟩) n cap) hl (fun k hk => ?_) (fun q hq => ?_) hg) (fun _ _ => trivial)
  ·simp only [Value.ownBlock,Option.some.injEq] at hk
   subst hk
   exact hty
  ·have : q = 43:=by simpa [kRec,Kd.iso,Kd.pair,Kd.int,Kd.scalar] using hq
   rw [this];decide
def YU (w0 w : World) (g : Nat) (vd vm vl : Value) (e : Eng) (x : Ending) (w' : World) : Prop:=(∃ v,x = .returned v) ∧ Ab w' g e vd vm vl ∧ Aw w' w0.heap.size vd vm vl e ∧ Below w0.heap.size w0 w' ∧ Kept w w' (fun k => k = g ∨ some k = vd.ownBlock)
set_option maxRecDepth 100000 in
set_option maxHeartbeats 16000000 in
theorem PO {w0 w : World} {g : Nat} {vd vm vl : Value} {e : Eng} {p : Nat} (hp : p < 5) (hgd : geo e.disk) (hgm : geo e.mem) (hb : Below w0.heap.size w0 w) (hg : w0.heap.size ≤ g) (hq : Ab w g e vd vm vl) (ho : Aw w w0.heap.size vd vm vl e) : Calls Tryz.prog 64 #[ptr g, .int .i64 (p : Int)] w (YU w0 w g vd vm vl (Cj e p)):=by
 have hgd5:=hgd.1
 have hgm5:=hgm.1
 obtain ⟨okd,okm, -, -,hpm⟩:=ho.ex
 obtain ⟨gm,capm,rfl, -, -⟩:=D9 hpm (by omega)
 have hpl : p < e.mem.length:=by omega
 obtain ⟨A2,c2,p0,p1,p2,pC, -⟩:=F4 hpm p hpl
 have hp5i : (p : Int) < 5:=by omega
 have x1:=hq.c1
 have x3:=hq.c3
 have f3:=hq.frz 3
 have HQ:=As hq
 have HO:=As ho
 have HB:=As hb
 have HG:=As hg
 have HGD:=As hgd5
 have HGM:=As hgm
 clear hpm hq ho hb hg hgd p1 p2 pC
 go_enter Tryz.func64,Tryz.ntmps64
 go_wp2
 refine Bo (fun lx a wx => Un 16 (fun wx => Below w.heap.size w wx) lx a wx ∧ Ys 16 (fun wx => ∃ wy,Below w.heap.size w wy ∧ wx = wy.setCell ⟨g,3,none⟩ (.int .i64 (max e.safe (pg e.mem p).lsn))) lx a wx) 17 rfl (by kernel_rfl) (⟨fun _ => Ac (Below.refl _ _),KV⟩) (fun HT => ?_)
 refine Bw [0,1,2,3,4,5,6,7,8,9,10,11,12,13,14,15] ?_
 iterate 16 (refine IY (v:=?_) 16 HT rfl (by kernel_rfl) (by kernel_rfl) rfl (kA (Bj rfl) (Gx rfl)) (by rfl) (fun _ _ _ h => h) (fun lx ax wx hK hS => ?_) ?_;rotate_left;(have hbx:=hS.1 hK;clear hS;replace x1:=bc hbx x1;replace x3:=bc hbx x3;replace p0:=bc hbx p0;go_simp;with_reducible rfl);rotate_left;simp only [sc0,sc1])
 refine Bv ?_
 refine AJ [16] (by kernel_rfl) (fun i hi wx hS => ?_)
 obtain rfl:=List.mem_singleton.1 hi
 clear hi
 have hbx:=hS.1 (by kernel_rfl)
 have q3:=bc hbx x3
 have f3':=(HQ.out.up hbx).frz 3
 refine BH (w1:=wx.setCell ⟨g,3,none⟩ (.int .i64 (max e.safe (pg e.mem p).lsn))) rfl (by rfl) (by go_simp) ?_
 refine ⟨⟨fun h => (Ao (by kernel_rfl) h).elim,fun _ => ⟨wx,hbx,rfl⟩⟩,?_⟩
 clear hS hbx q3 f3'
 refine GU (by kernel_rfl) (fun w3 hS => ?_)
 obtain ⟨wy,hbx,rfl⟩:=hS.2 (by kernel_rfl)
 obtain ⟨E,hE⟩ : ∃ E : Eng,{ e with safe:=max e.safe (pg e.mem p).lsn } = E:=⟨_,rfl⟩
 obtain ⟨w3,hw3⟩ : ∃ w3,wy.setCell ⟨g,3,none⟩ (.int .i64 (max e.safe (pg e.mem p).lsn)) = w3:=⟨_,rfl⟩
 have HQ3 : A7 (Ab w3 g E vd (.slice (some ⟨gm,0,none⟩) e.mem.length capm) vl):=⟨by rw [← hw3, ← hE];exact (HQ.out.up hbx).CK _⟩
 have ho3 : Aw w3 w0.heap.size vd (.slice (some ⟨gm,0,none⟩) e.mem.length capm) vl e:=by rw [← hw3];exact (HO.out.below hbx).Dy (HQ.out.up hbx) 3 _
 have HO3 : A7 (Aw w3 w0.heap.size vd (.slice (some ⟨gm,0,none⟩) e.mem.length capm) vl E):=⟨by rw [← hE];exact ⟨ho3.ex,ho3.l⟩⟩
 have HB3 : A7 (Below w0.heap.size w0 w3):=⟨by rw [← hw3];exact (bj HB.out hbx).setCell (p:=⟨g,3,none⟩) HG.out _⟩
 have HK3 : A7 (Kept w w3 (fun k => k = g ∨ some k = vd.ownBlock)):=⟨by rw [← hw3];exact (Kept.of_below hbx _).setCell (p:=⟨g,3,none⟩) (.inl (.inl rfl)) _⟩
 have HED : A7 (E.disk.length = 5):=⟨by rw [← hE];exact hgd5⟩
 have HEM : A7 (geo E.mem):=⟨by rw [← hE];exact HGM.out⟩
 have HEL : A7 (Cj e p = { E with disk:=E.disk.set p (pg E.mem p) }):=⟨by rw [← hE];rfl⟩
 have hlm : e.mem.length = E.mem.length:=by rw [← hE]
 have HLM:=As hlm
 rw [hw3]
 rw [hlm] at HQ3 HO3
 clear hS hbx x1 x3 f3 p0 ho3 hw3 hE HQ HO HB HGD HGM hgd5 hgm5 hgm hpl hlm
 obtain ⟨okd,okm,hap,hpd,hpm⟩:=HO3.out.ex
 have hpl : p < E.mem.length:=by rw [HEM.out.1];exact hp
 have hpd5 : p < E.disk.length:=by rw [HED.out];exact hp
 obtain ⟨gd,capd,rfl, -,hgdl⟩:=D9 hpd (by omega)
 obtain ⟨A2,c2,p0,p1,p2,pC, -⟩:=F4 hpm p hpl
 have x0:=HQ3.out.c0
 have x1:=HQ3.out.c1
 have hm5 : E.mem.length = 5:=HEM.out.1
 have hd5 : E.disk.length = 5:=HED.out
 have HPM:=As hpm
 have HPD:=As hpd
 have HAP:=As hap
 have HC:=As pC
 have HGL:=As hgdl
 have HV3:=As (show (pg E.mem p).vals.length ≤ 17592186044416 by rw [Ia HEM.out hp];omega)
 obtain ⟨q,hqq⟩ : ∃ q,pg E.mem p = q:=⟨_,rfl⟩
 rw [hqq] at p0 p1 p2 HC HV3
 have HEL2 : A7 (Cj e p = { E with disk:=E.disk.set p q }):=⟨by rw [HEL.out,hqq]⟩
 clear hap hpd hpm pC hgdl hqq HEL
 go_wp2
 refine Bo (fun lx a wx => Below w3.heap.size w3 wx ∧ Sl 12 32 (fun v wx => ∃ u,v = q.own u ∧ AA wx w3.heap.size u q.vals) lx a wx) 14 rfl (by kernel_rfl) (⟨Ac (Below.refl _ _),Bp⟩) (fun HT => ?_)
 refine Bw [0,1,2,3,4,5,6,7,8,9,10,11] ?_
 iterate 12 (refine Bq (v:=?_) HT rfl (by kernel_rfl) rfl (kA Ah (Ak rfl rfl)) (by rfl) (fun _ _ _ h => h) (fun lx ax wx hS => ?_) ?_;rotate_left;(have hbx:=hS.1;clear hS;replace x0:=bc hbx x0;replace x1:=bc hbx x1;replace p0:=bc hbx p0;replace p1:=bc hbx p1;replace p2:=bc hbx p2;go_simp;with_reducible rfl);rotate_left;simp only [sc0,sc1])
 refine Bv ?_
 refine Cr (i:=12) (f:=69) (args:=#[q.val A2 c2]) (fun v => ∃ u,v = q.own u) rfl (by kernel_rfl) rfl Tryz.func69 (by kernel_rfl) rfl rfl (by rfl) (by simp only [List.map_toArray,List.map_cons,List.map_nil];rfl) (fun wx hS => (FX HV3.out hS.1 HC.out).mono (by rintro x w6 ⟨u,rfl,ho,hb⟩;exact ⟨_,rfl,⟨u,rfl⟩,bj hS.1 hb,fun _ => ⟨u,rfl,ho.lower hS.1.size⟩⟩)) (fun vx hg => ?_);simp only [sc0,sc1]
 obtain ⟨u,rfl⟩:=hg
 refine CZ (i:=13) (v:=?_) HT rfl (by kernel_rfl) rfl (kA Ah (Ak rfl rfl)) (by rfl) (fun _ _ _ h => h) (fun lx ax wx hS => ?_) ?_;rotate_left;(go_simp;with_reducible rfl);rotate_left;simp only [sc0,sc1]
 refine Cb (i:=14) (by kernel_rfl) rfl (fun wx hS => ?_)
 obtain ⟨h5x,h2⟩:=hS
 obtain ⟨u1,hu1,hown⟩:=h2 (by kernel_rfl)
 have hu1 : q.own u = q.own u1:=hu1
 obtain rfl : u = u1:=by simpa using hu1
 refine FC (ok:=okd) (w0:=w0) (N:=w3.heap.size) (q:=q) p rfl (.tmp 33) (.tmp 32) rfl (by rfl) rfl rfl rfl hown HB3.out.size (Kd.Fe HPD.out h5x) hpd5 (bj HB3.out h5x) (fun w8 hO8 hB8 hg8 => ?_)
 refine BM (by kernel_rfl) ?_
 have hm8:=Kd.Fe HPM.out h5x
 have hty:=Kd.FY (Kd.Bg HPD.out h5x) gd (by simp [Value.ownBlock])
 have he8:=Aw.Tc (e:=E) HAP.out hm8 (Kd.C8 HO3.out.l h5x) hown hO8 (Kr HPD.out gd (by simp [Value.ownBlock])) hg8 hty
 have hq8 : Ab w8 g { E with disk:=E.disk.set p q } (.slice (some ⟨gd,0,none⟩) E.disk.length capd) (.slice (some ⟨gm,0,none⟩) E.mem.length capm) vl:=(hg8.block g (by have:=HQ3.out.lt;have:=h5x.size;omega) (fun e2 => by injection e2 with e2;exact GD HQ3.out HPD.out e2)).trans (HQ3.out.up h5x)
 have hk8:=Kept.I5 hg8 (HK3.out.below h5x) (fun k hk => .inl (.inr (by rw [← hk];rfl)))
 have HX8:=As (And.intro hB8 (And.intro he8 (And.intro hq8 hk8)))
 clear h5x h2 hu1 hown hO8 hB8 hg8 hm8 hty he8 hq8 hk8 x0 x1 p0 p1 p2
 go_wp2
 have h1:=HX8.out.2.2.1
 have h2:=HX8.out.2.1
 have h4:=HX8.out.2.2.2
 rw [HED.out, ← HLM.out] at h1 h2
 exact bodyPost_ret (v:=.tuple #[]) (by simp [results,Tryz.results64,go_sem]) rfl ⟨⟨_,rfl⟩,by rw [HEL2.out];exact ⟨h1,h2,HX8.out.1,h4⟩⟩
theorem Ug {r : Rec} (h : Cv r = true) (hc : Cu r.kind = true) : 0 ≤ r.page ∧ r.page < 5:=by
 have:=Ic h hc
 omega
set_option maxRecDepth 100000 in
set_option maxHeartbeats 16000000 in
theorem Ro {w0 w : World} {g : Nat} {e : Eng} {tx : Int} (hs : Jv e tx) (h : JZ w0 w g e) : Calls Tryz.prog 50 #[ptr g, .int .i64 tx] w (X3 w0 g (AY e tx)):=by
 obtain ⟨⟨vd,vm,vl,hq,ho⟩,hb,hg⟩:=h
 obtain ⟨Ad,cd,Am,cm,Al,cl,rfl,rfl,rfl, -,hrd⟩:=ho.reads
 have hlg:=BA hs.log
 have hl1:=hs.XJ
 obtain ⟨ln,hln⟩ : ∃ ln : Nat,Ae e.log tx e.log.length = ln:=⟨_,rfl⟩
 have hlnl : ln ≤ e.log.length:=by rw [← hln];exact Bc _ _ _
 obtain ⟨k,hk⟩ : ∃ k : Nat,Bt e.log ln = k:=⟨_,rfl⟩
 have hkl : k ≤ e.log.length:=by rw [← hk];exact Nat.le_trans Gc hlnl
 have HS:=As hs
 have HQ:=As hq
 have HO:=As ho
 have HB:=As hb
 have HG:=As hg
 have HC:=As hrd
 have HLN:=As hln
 have HLL:=As hlnl
 have HK:=As hk
 have HNX : A7 (Da e tx = if k = 0 then ⟨5,tx,0,0,0,0,0,0⟩ else Br (rc e.log (k - 1)) 0):=⟨by unfold Da;rw [show lastT e tx = ln from hln,hk]⟩
 have x2:=hq.c2
 clear hs hq ho hb hg hrd hln hlnl hk hlg
 have hcu : ∀ wx,Below w.heap.size w wx → Calls Tryz.prog 87 #[.slice Al e.log.length cl, .int .i64 ln] wx fun x w' => x = .returned (.int .i64 k) ∧ Below w.heap.size w w':=fun wx hb => by
  have:=Jf (c:=cl) HLL.out hb HC.out.l HS.out.log
  rw [HK.out] at this
  exact this
 have HCU:=As hcu
 clear hcu
 go_enter Tryz.func50,Tryz.ntmps50
 go_wp2
 refine Aq (fun w' => Below w.heap.size w w') rfl rfl (by kernel_rfl) (Ac (Below.refl _ _)) (fun HT => ?_)
 repeat (first
  | (refine AQ (fun wx hS => ?_))
  | ((with_reducible refine Ay (f:=86) rfl ?_);refine Az (v:=.int .i64 ln) (args:=#[.slice Al e.log.length cl, .int .i64 tx]) HT rfl Tryz.func86 (by kernel_rfl) rfl rfl (by rfl) (fun _ _ _ h => h) (by simp only [List.map_toArray,List.map_cons,List.map_nil];rfl) (fun wx hS => (Pg (c:=cl) HLN.out hS HC.out.l).mono fun _ _ h => ⟨h.1,bj hS h.2⟩) ?_;simp only [sc0,sc1])
  | ((with_reducible refine Ay (f:=87) rfl ?_);refine Az (v:=.int .i64 k) (args:=#[.slice Al e.log.length cl, .int .i64 ln]) HT rfl Tryz.func87 (by kernel_rfl) rfl rfl (by rfl) (fun _ _ _ h => h) (by simp only [List.map_toArray,List.map_cons,List.map_nil];rfl) (fun wx hS => HCU.out wx hS) ?_;simp only [sc0,sc1])
  | (refine AB HT rfl (by rfl) (fun _ _ _ h => h) ?_;simp only [sc0,sc1])
  | (refine AP (v:=?_) HT rfl (by rfl) (fun _ _ _ h => h) (fun wx hS => ?_) ?_;rotate_left;(have x2:=bc hS x2;go_simp;with_reducible rfl);rotate_left;simp only [sc0,sc1]))
 have HX:=As hS
 have hq3:=HQ.out.up hS
 have x2:=hq3.c2
 clear hS hq3
 rcases k with _ | k
 ·have hE : AY e tx = { e with log:=e.log ++ [Ey ⟨5,tx,0,0,0,0,0,0⟩ (Ae e.log tx e.log.length)] }:=by
   unfold AY
   rw [HNX.out,if_pos rfl]
   unfold Eng.app
   rw [if_neg (by simp [Cu])]
   rfl
  have HE:=As hE
  clear hE
  go_wp2_with (go_at_call 90;refine (OH ⟨5,tx,0,0,0,0,0,0⟩ (by omega) (bj HB.out HX.out) HG.out (HQ.out.up HX.out) (HO.out.below HX.out)).mono ?_;rintro x w4 ⟨vl2,rfl,hq4,ho4,hb4, -⟩;have HX4:=As (And.intro hq4 (And.intro ho4 hb4));clear hq4 ho4 hb4)
  exact bodyPost_ret (v:=.tuple #[]) (by simp [results,Tryz.results50,go_sem]) rfl ⟨⟨_,rfl⟩,by rw [HE.out];exact ⟨⟨_,_,_,HX4.out.1,HX4.out.2.1⟩,HX4.out.2.2,HG.out⟩⟩
 ·have hkk : k < e.log.length:=by omega
  obtain ⟨ad,rfl,QR⟩:=Cs (HC.out.l) k hkk
  obtain ⟨z0,z1,z2,z3,z4,z5,z6,z7⟩:=QR.up HX.out
  obtain ⟨rb,hrb⟩ : ∃ rb,Br (rc e.log k) 0 = rb:=⟨_,rfl⟩
  have hnx : Da e tx = rb:=by rw [HNX.out,if_neg (by omega),Nat.add_sub_cancel,hrb]
  have hkd : Cu rb.kind = true:=by rw [← hrb];rfl
  have hst : CB e tx = Ey rb (Ae e.log rb.tx e.log.length):=by unfold CB;rw [hnx];rfl
  have hmay:=HS.out.may (by rw [hst];exact hkd)
  rw [hst] at hmay
  have hpr : 0 ≤ rb.page ∧ rb.page < 5:=by
   have h1:=hmay
   simp only [IK,Bool.and_eq_true] at h1
   exact Ug (r:=Ey rb (Ae e.log rb.tx e.log.length)) h1.2.1 hkd
  have hE : AY e tx = e.app rb:=by unfold AY;rw [hnx]
  have HE:=As hE
  have HRB:=As hrb
  have HMAY:=As hmay
  have HPR:=As hpr
  have hwr0 : IntKind.i64.wrap (k : Int) = (k : Int):=by simp (disch:=omega) only [IntWalk.i64_in]
  have hwr1 : IntKind.i64.wrap ((k : Int) + 1 - 1) = (k : Int):=by rw [show ((k : Int) + 1 - 1) = (k : Int) by omega];exact hwr0
  have hwr2 : IntKind.i64.wrap (((k + 1 : Nat) : Int) - 1) = (k : Int):=by rw [show (((k + 1 : Nat) : Int) - 1) = (k : Int) by omega];exact hwr0
  have hEg:=As (JZ.up ⟨⟨_,_,_,HQ.out,HO.out⟩,HB.out,HG.out⟩ HX.out)
  clear hE hrb hmay hpr QR hnx hkd hst
  go_wp2_with (first
   | (go_at_call 89;refine (NJ (rc e.log k) 0 _).mono ?_;rw [HRB.out];rintro x w4 ⟨rfl,hb4⟩;have HG4:=As (hEg.out.up hb4);clear hb4)
   | (go_at_call 88;refine (R4 rb (by omega) HS.out.geo HPR.out HMAY.out HG4.out).mono ?_;rintro x w5 ⟨⟨v,rfl⟩,hg5⟩;have HG5:=As hg5;clear hg5))
  exact bodyPost_ret (v:=.tuple #[]) (by simp [results,Tryz.results50,go_sem]) rfl ⟨⟨_,rfl⟩,by rw [HE.out];exact HG5.out⟩
def YX (w0 : World) (e : Eng) (x : Ending) (w' : World) : Prop := ∃ vd vm vl,x = .returned (e.ag vd vm vl) ∧ Aw w' w0.heap.size vd vm vl e ∧ Below w0.heap.size w0 w'
theorem L9 {w : World} {b g : Nat} {v ud um ul : Value} {l : List Rec} {q : Eng} (h : OwnRs w b v l) (hq : Ab w g q ud um ul) (j : Nat) (u : Value) : OwnRs (w.setCell ⟨g,j,none⟩ u) b v l:=
 Kd.X5 h hq (fun q hq => by have : q = 43:=(by simpa [kRec,Kd.iso,Kd.pair,Kd.int,Kd.scalar] using hq);rw [this];decide) j u
theorem Aw.Qm {w4 w5 : World} {b b2 : Nat} {okd : Nat → Prop} {vd vm vl : Value} {ps qs : List Page} {l : List Rec} {s : Int} {d : Bool} (hd : Ci w4 b okd vd ps) (hm : F3 w5 w4.heap.size vm qs) (hb : Below w4.heap.size w4 w5) (hl : OwnRs w4 b2 vl l) (hle : b ≤ w4.heap.size) (hb2 : b ≤ b2) : Aw w5 b vd vm vl ⟨ps,qs,l,s,d⟩:=
 ⟨⟨fun k => okd k ∧ k < w4.heap.size,fun k => w4.heap.size ≤ k,fun k h1 h2 => by omega,Kd.Fe hd hb,Kd.Eb (Kd.Dt (Kd.Dg hm) (fun k hk => hk.2.1)) hle⟩,Kd.H8 (Kd.C8 hl hb) hb2⟩
set_option maxRecDepth 100000 in
set_option maxHeartbeats 8000000 in
theorem O1 {w0 w : World} {e : Eng} {vd vm vl : Value} (left : Int) (hgd : geo e.disk) (hs0 : 0 ≤ e.safe) (hs1 : e.safe ≤ e.log.length) (hl : e.log.length ≤ 150) (hb : Below w0.heap.size w0 w) (hr : Aw w w0.heap.size vd vm vl e) : Calls Tryz.prog 34 #[e.ag vd vm vl, .int .i64 left] w (YX w0 (BL e left)):=by
 obtain ⟨Ad,cd,Am,cm,Al,cl,rfl,rfl,rfl,hcl,hrd⟩:=hr.reads
 obtain ⟨okd,okm, -,hpd, -⟩:=hr.ex
 obtain ⟨w1,hw1⟩ : ∃ w1,w.alloc (e.obox (.slice Ad e.disk.length cd) (.slice Am e.mem.length cm) (.slice Al e.log.length cl)) = w1:=⟨_,rfl⟩
 obtain ⟨w2,hw2⟩ : ∃ w2,w1.alloc (zE.obox (.slice none 0 0) (.slice none 0 0) (.slice none 0 0)) = w2:=⟨_,rfl⟩
 have hz1 : w1.heap.size = w.heap.size + 1:=by rw [← hw1];exact BD _ _
 have hz2 : w2.heap.size = w.heap.size + 1 + 1:=by rw [← hw2,BD,hz1]
 have hb12 : Below w1.heap.size w1 w2:=by rw [← hw2];exact Aa (Below.refl _ _) _
 have hb02 : Below w.heap.size w w2:=by rw [← hw2, ← hw1];exact Aa (Aa (Below.refl _ _) _) _
 have HB2:=As hb02
 have HB:=As hb
 have HQ2 : A7 (Ab w2 w.heap.size e (.slice Ad e.disk.length cd) (.slice Am e.mem.length cm) (.slice Al e.log.length cl)):=⟨Ab.up (by rw [← hw1];exact Ab.mk1 _ _ _ _ _) hb12⟩
 have HP2 : A7 (Ab w2 (w.heap.size + 1) zE (.slice none 0 0) (.slice none 0 0) (.slice none 0 0)):=⟨by rw [← hw2, ← hz1];exact Ab.mk1 _ _ _ _ _⟩
 have HW2 : A7 ((w.alloc (e.obox (.slice Ad e.disk.length cd) (.slice Am e.mem.length cm) (.slice Al e.log.length cl))).alloc (zE.obox (.slice none 0 0) (.slice none 0 0) (.slice none 0 0)) = w2):=⟨by rw [hw1,hw2]⟩
 have HZ2:=As hz2
 have HD2:=As (Kd.Bg hpd hb02)
 have HL2:=As (BF hrd.l hb02)
 have HGD:=As hgd
 have hle:=Gw (left:=left) hs0 hs1
 obtain ⟨n,hn⟩ : ∃ n : Nat,Dj e left = n:=⟨_,rfl⟩
 rw [hn] at hle
 have hmax : max e.safe (min left (e.log.length : Int)) = (n : Int):=by rw [← hn];unfold Dj;omega
 have hncl : n ≤ cl:=by omega
 have hln : (e.log.take n).length = n:=by rw [List.length_take];omega
 have HLn:=As hln
 have HE:=As (show BL e left = ⟨e.disk,e.disk,e.log.take n,e.safe,true⟩ by rw [BL,hn])
 have HTK : A7 (Kd.C kRec w2 Al (e.log.take n).length (e.log.take n)):=⟨KD HL2.out (by omega)⟩
 have HN:=As (show n ≤ 150 by omega)
 have HWB:=As (bj hb hb02)
 have x0:=HQ2.out.c0
 have x2:=HQ2.out.c2
 have x3:=HQ2.out.c3
 clear hw1 hw2 hz1 hz2 hb12 hb02 hb hr hpd hrd hgd hle hn hln hs0 hs1 hl
 go_enter Tryz.func34,Tryz.ntmps34
 go_wp2_with (first
  | ((with_reducible refine OE (.call { callee:=.builtin .append,args:=#[.tmp 5, .tmp 16],argTypes:=#[24,24] }) rfl ?_);go_loud (rw [show (w.alloc (Obj.cells #[Value.slice Ad e.disk.length cd,Value.slice Am e.mem.length cm,Value.slice Al e.log.length cl,Value.int IntKind.i64 e.safe,Value.bool e.down] 26)).alloc (Obj.cells #[Value.slice none 0 0,Value.slice none 0 0,Value.slice none 0 0,Value.int IntKind.i64 0,Value.bool false] 26) = w2 from HW2.out]);go_loud (refine GK (w0:=w2) (xs := []) (ys:=e.log.take n) (A:=Al) (c:=cl) rfl (.tmp 5) (.tmp 16) rfl rfl (by rw [HLn.out];rfl) (rs_empty HZ2.out.symm (Nat.le_refl _)) (BF HTK.out (Aa (Below.refl _ _) _)) (Aa (Below.refl _ _) _) (by rw [HLn.out];have:=HN.out;simp;omega) ?_);intro v1 w3 hO hb3 _;have hO : OwnRs w3 w2.heap.size v1 (e.log.take n):=hO;obtain ⟨Bl,dl,hv, -, -⟩:=Kd.D6 hO;rw [HLn.out] at hv;subst hv;have HO3:=As hO;have HB3:=As hb3;have hq3:=HQ2.out.up hb3;have hp3:=HP2.out.up hb3;have HQ3:=As hq3;have HP3:=As hp3;have f2:=hq3.frz 2;have x0':=hq3.c0;have x2':=hq3.c2;clear hO hb3 hq3 hp3 x0 x2 x3)
  | (go_at_call 68;obtain ⟨w4,hw4⟩ : ∃ w4,w3.setCell ⟨w.heap.size,2,none⟩ (.slice Bl n dl) = w4:=⟨_,rfl⟩;have hz2:=HZ2.out;have hn3:=HB3.out.size;have hq4 : Ab w4 w.heap.size e (.slice Ad e.disk.length cd) (.slice Am e.mem.length cm) (.slice Bl n dl):=(by rw [← hw4];exact HQ3.out.set2 _);have hp4 : Ab w4 (w.heap.size + 1) zE (.slice none 0 0) (.slice none 0 0) (.slice none 0 0):=(by rw [← hw4];exact HP3.out.far (by omega) _ _);have hd4 : Ci w4 w0.heap.size okd (.slice Ad e.disk.length cd) e.disk:=(by rw [← hw4];exact FO (Kd.Bg HD2.out HB3.out) HQ3.out 2 _);have hl4 : OwnRs w4 w2.heap.size (.slice Bl n dl) (e.log.take n):=(by rw [← hw4];exact L9 HO3.out HQ3.out 2 _);have hb4 : Below w0.heap.size w0 w4:=(by rw [← hw4];exact (bj HWB.out HB3.out).setCell (p:=⟨w.heap.size,2,none⟩) HB.out.size _);rw [hw4];refine (Cx (w0:=w4) (c:=cd) (ET HGD.out) (by have:=HGD.out.1;omega) (Below.refl _ _) (Kd.NN hd4).2.2).mono ?_;rintro x w5 ⟨v,rfl,ho,hb5⟩;obtain ⟨Bm,dm,rfl, -, -⟩:=Kd.CV ho;have HO5:=As (Aw.Qm (s:=e.safe) (d:=true) hd4 ho hb5 hl4 hb4.size (Nat.le_trans (by rw [hz2];have:=HB.out.size;omega) (Nat.le_refl _)));have HB5:=As (bj hb4 hb5);have hq5:=hq4.up hb5;have hp5:=hp4.up hb5;have HQ5:=As hq5;have HP5:=As hp5;have x0:=hq5.c0;have x1:=hq5.c1;have x2:=hq5.c2;have x3:=hq5.c3;have x4:=hq5.c4;have g1:=hq5.frz 1;have g4:=hq5.frz 4;have y0:=hp5.c0;have y1:=hp5.c1;have y2:=hp5.c2;have y3:=hp5.c3;have y4:=hp5.c4;have f0:=hp5.frz 0;have f1:=hp5.frz 1;have f2:=hp5.frz 2;have f3:=hp5.frz 3;have f4:=hp5.frz 4;clear hw4 hz2 hn3 hq4 hp4 hd4 hl4 hb4 ho hb5 hq5 hp5 x0' x2'))
 have hgw:=HB.out.size
 have q1:=HQ5.out.set1 (.slice Bm e.disk.length dm)
 have r1:=(HO5.out.Dy HQ5.out 1 (.slice Bm e.disk.length dm)).Dy q1 4 (.bool true)
 have p1:=(HP5.out.far (b:=w.heap.size) (by omega) 1 (.slice Bm e.disk.length dm)).far (b:=w.heap.size) (by omega) 4 (.bool true)
 have b1:=(HB5.out.setCell (p:=⟨w.heap.size,1,none⟩) hgw (.slice Bm e.disk.length dm)).setCell (p:=⟨w.heap.size,4,none⟩) hgw (.bool true)
 have h1:=r1.Ap (f:=⟨e.disk,e.disk,e.log.take n,e.safe,true⟩) (xd:=.slice Ad e.disk.length cd) (xm:=.slice Bm e.disk.length dm) (xl:=.slice Bl n dl) p1
 have h2:=Aj (g:=w.heap.size + 1) b1 (by omega) ⟨e.disk,e.disk,e.log.take n,e.safe,true⟩ (.slice Ad e.disk.length cd) (.slice Bm e.disk.length dm) (.slice Bl n dl)
 have hy:=p1.Ap ⟨e.disk,e.disk,e.log.take n,e.safe,true⟩ (.slice Ad e.disk.length cd) (.slice Bm e.disk.length dm) (.slice Bl n dl)
 have z0:=hy.c0
 have z1:=hy.c1
 have z2:=hy.c2
 have z3:=hy.c3
 have z4:=hy.c4
 simp only at z0 z1 z2 z3 z4
 exact bodyPost_ret (v:=.agg #[.slice Ad e.disk.length cd, .slice Bm e.disk.length dm, .slice Bl n dl, .int .i64 e.safe, .bool true]) (by simp [results,Tryz.results34,go_sem,z0,z1,z2,z3,z4]) rfl ⟨_,_,_,by rw [HE.out],by rw [HE.out];exact h1,h2⟩
section
variable {w w1 : World} {b g n cap : Nat} {ok : Nat → Prop} {ps : List Page}
theorem WO (h : Ci w b ok (.slice (some ⟨g,0,none⟩) n cap) ps) {i : Nat} (hi : i < n) :
  ∃ (oki : Nat → Prop) (v : Value),(∀ k,oki k → ok k ∧ k ≠ g) ∧ ok g ∧ RI w b oki v (pg ps i).vals ∧ (w.cell? ⟨g,i * 3,none⟩ = some (.int .i64 (pg ps i).lsn) ∧ w.cell? ⟨g,i * 3 + 1,none⟩ = some (.int .i64 (pg ps i).owner) ∧ w.cell? ⟨g,i * 3 + 2,none⟩ = some v) ∧ (∀ j,w.frozen? ⟨g,i * 3 + j,none⟩ = false) ∧
   Kd.H CJ 47 w b ok (.slice (some ⟨g,0,none⟩) n cap) ps (i : Int) oki [.int .i64 (pg ps i).lsn, .int .i64 (pg ps i).owner,v]:=by
 obtain ⟨oki,c,hcl,hM,hcc,hfr,hok,hH⟩:=Kd.XZ h z0 (i : Int) (by omega) (by omega)
 rw [Int.toNat_natCast] at hM hcc hfr
 obtain ⟨v,rfl,hv⟩:=JS hM
 have hg : ok g:=by
  obtain ⟨f,h0,_⟩:=h
  exact h0 g (by simp [Value.ownBlock])
 exact ⟨oki,v,hok,hg,hv,⟨hcc 0 _ rfl,hcc 1 _ rfl,hcc 2 _ rfl⟩,fun j => hfr j,hH⟩
theorem Xx (h : Ci w b ok (.slice (some ⟨g,0,none⟩) n cap) ps) {i : Nat} (hi : i < n) (x : Int) : Ci (w.setCell ⟨g,i * 3,none⟩ (.int .i64 x)) b ok (.slice (some ⟨g,0,none⟩) n cap) (ps.set i { pg ps i with lsn:=x }):=by
 obtain ⟨oki,v,hok,hg,hv, -, -,hH⟩:=WO h hi
 have:=(Kd.Vm (seg := [.int .i64 x]) (j:=0) (x':={ pg ps i with lsn:=x }) (okp:=oki) hH (by omega) (by omega) (by show 0 + 1 ≤ 3;decide) (FH w b oki { pg ps i with lsn:=x } hv) (fun _ hk => hk)).1
 rw [Int.toNat_natCast] at this
 exact this
theorem YH (h : Ci w b ok (.slice (some ⟨g,0,none⟩) n cap) ps) {i : Nat} (hi : i < n) (x : Int) : Ci (w.setCell ⟨g,i * 3 + 1,none⟩ (.int .i64 x)) b ok (.slice (some ⟨g,0,none⟩) n cap) (ps.set i { pg ps i with owner:=x }):=by
 obtain ⟨oki,v,hok,hg,hv, -, -,hH⟩:=WO h hi
 have:=(Kd.Vm (seg := [.int .i64 x]) (j:=1) (x':={ pg ps i with owner:=x }) (okp:=oki) hH (by omega) (by omega) (by show 1 + 1 ≤ 3;decide) (FH w b oki { pg ps i with owner:=x } hv) (fun _ hk => hk)).1
 rw [Int.toNat_natCast] at this
 exact this
theorem Za {oki : Nat → Prop} {v : Value} {i : Nat} {xs : List Int} (hH : Kd.H CJ 47 w b ok (.slice (some ⟨g,0,none⟩) n cap) ps (i : Int) oki [.int .i64 (pg ps i).lsn, .int .i64 (pg ps i).owner,v]) (hv : RI w1 b oki v xs) (hk : Kept w w1 (fun m => some m = v.ownBlock)) : Ci w1 b ok (.slice (some ⟨g,0,none⟩) n cap) (ps.set i { pg ps i with vals:=xs }):=by
 have h1:=Kd.Yf hH hk (fun k _ hn e => hn (hv.1 k e.symm))
 have:=Kd.VA h1 (FH w1 b oki { pg ps i with vals:=xs } hv) (fun _ hk => hk)
 rw [Int.toNat_natCast] at this
 exact this
end
end Go.Proofs.YtjeodgfkilhkhaaGreat
namespace Go.Proofs.YtjeodgfkilhkhaaGreat
open Go.RowKit Go.Proofs.YtjeodgfkilhkhaaGreatW.PrintWords Go.Proofs.YtjeodgfkilhkhaaGreatW.PrintLast Go.Proofs.YtjeodgfkilhkhaaGreatW.PrintMore
theorem Ff.d' {w : World} {e : Eng} {Ad Am Al : Option Addr} (h : Ff w e Ad Am Al) : Kd.C CJ w Ad e.disk.length e.disk:=h.d
theorem Eng.val_inj {e : Eng} {A B C A' B' C' : Option Addr} {a b c a' b' c' : Nat} (h : e.val A B C a b c = e.val A' B' C' a' b' c') : A = A' ∧ B = B' ∧ C = C' ∧ a = a' ∧ b = b' ∧ c = c':=by
 simp only [Eng.val,Eng.ag,Value.agg.injEq,Array.mk.injEq,List.cons.injEq,Value.slice.injEq,and_true,true_and] at h
 exact ⟨h.1.1,h.2.1.1,h.2.2.1,h.1.2,h.2.1.2,h.2.2.2⟩
structure G8 (w : World) (b : Nat) (ok : Nat → Prop) (vd vm vl : Value) (e : Eng) : Prop where
 ex : ∃ okd okm : Nat → Prop,(∀ k,okd k → okm k → False) ∧ (∀ k,okd k → ok k) ∧ (∀ k,okm k → ok k) ∧ Ci w b okd vd e.disk ∧ Ci w b okm vm e.mem
 l : OwnRs w b vl e.log
 lk : ∀ k,vl.ownBlock = some k → ok k
section
variable {w w1 : World} {b : Nat} {ok : Nat → Prop} {vd vm vl : Value} {e : Eng}
theorem G8.E (h : G8 w b ok vd vm vl e) : Aw w b vd vm vl e:=by
 obtain ⟨okd,okm,h1, -, -,h4,h5⟩:=h.ex
 exact ⟨⟨okd,okm,h1,h4,h5⟩,h.l⟩
theorem Aw.toK (h : Aw w b vd vm vl e) : G8 w b (fun k => b ≤ k ∧ k < w.heap.size) vd vm vl e:=by
 obtain ⟨⟨okd,okm,h1,h2,h3⟩,h4⟩:=h
 exact ⟨⟨fun k => okd k ∧ (b ≤ k ∧ k < w.heap.size),fun k => okm k ∧ (b ≤ k ∧ k < w.heap.size),fun k ha hb => h1 k ha.1 hb.1,fun k hk => hk.2,fun k hk => hk.2,Kd.Dt (Kd.Dg h2) (fun k hk => ⟨hk.1,hk.2.1,hk.2.2.1⟩),Kd.Dt (Kd.Dg h3) (fun k hk => ⟨hk.1,hk.2.1,hk.2.2.1⟩)⟩,h4,fun k hk => ⟨Kd.Sq h4 k hk,Kd.Uq h4 k hk⟩⟩
theorem G8.kept {S : Nat → Prop} (h : G8 w b ok vd vm vl e) (hk : Kept w w1 S) (hne : ∀ k,ok k → ¬ S k) : G8 w1 b ok vd vm vl e:=by
 obtain ⟨⟨okd,okm,h1,h2,h3,h4,h5⟩,hl,hlk⟩:=h
 exact ⟨⟨okd,okm,h1,h2,h3,Kd.Ie h4 hk (fun k hx => hne k (h2 k hx)),Kd.Ie h5 hk (fun k hx => hne k (h3 k hx))⟩,Kd.DZ (Kd.Ih (Kd.IB rfl hl) hk (fun k hx => hne k (hlk k hx.symm))) (fun _ _ => trivial),hlk⟩
theorem G8.below (h : G8 w b ok vd vm vl e) (hb : Below w.heap.size w w1) : G8 w1 b ok vd vm vl e:=h.kept (S:=fun _ => False) (Kept.of_below hb _) (fun _ _ h => h)
theorem G8.lower {b' : Nat} (h : G8 w b ok vd vm vl e) (hb : b' ≤ b) : G8 w b' ok vd vm vl e:=by
 obtain ⟨⟨okd,okm,h1,h2,h3,h4,h5⟩,hl,hlk⟩:=h
 exact ⟨⟨okd,okm,h1,h2,h3,Kd.Eb h4 hb,Kd.Eb h5 hb⟩,Kd.H8 hl hb,hlk⟩
theorem G8.mono {ok' : Nat → Prop} (h : G8 w b ok vd vm vl e) (hok : ∀ k,ok k → ok' k) : G8 w b ok' vd vm vl e:=by
 obtain ⟨⟨okd,okm,h1,h2,h3,h4,h5⟩,hl,hlk⟩:=h
 exact ⟨⟨okd,okm,h1,fun k hk => hok k (h2 k hk),fun k hk => hok k (h3 k hk),h4,h5⟩,hl,fun k hk => hok k (hlk k hk)⟩
theorem G8.C {A B C : Option Addr} {n m l a b' c : Nat} (h : G8 w b ok (.slice A n a) (.slice B m b') (.slice C l c) e) : Ff w e A B C:=by
 obtain ⟨A',a',B',b2,C',c',h1,h2,h3, -,hc⟩:=h.E.reads
 injection h1 with h1
 injection h2 with h2
 injection h3 with h3
 subst h1 h2 h3
 exact hc
theorem Ff.kept {Ad Am Al : Option Addr} {cd cm cl : Nat} {S : Nat → Prop} (h : G8 w b ok (.slice Ad e.disk.length cd) (.slice Am e.mem.length cm) (.slice Al e.log.length cl) e) (hk : Kept w w1 S) (hne : ∀ k,ok k → ¬ S k) : Ff w1 e Ad Am Al:=by
 obtain ⟨A,a,B,b',C,c,h1,h2,h3, -,hc⟩:=(h.kept hk hne).E.reads
 injection h1 with h1
 injection h2 with h2
 injection h3 with h3
 subst h1 h2 h3
 exact hc
end
end Go.Proofs.YtjeodgfkilhkhaaGreat
namespace Go.Proofs.YtjeodgfkilhkhaaGreat
open Go.RowKit Go.Proofs.YtjeodgfkilhkhaaGreatW.PrintWords Go.Proofs.YtjeodgfkilhkhaaGreatW.PrintLast Go.Proofs.YtjeodgfkilhkhaaGreatW.PrintMore
theorem Gg {w w1 : World} {b : Nat} {vd vm vl v : Value} {e : Eng} {qs : List Page} (h : Aw w b vd vm vl e) (hb : Below w.heap.size w w1) (hv : F3 w1 w.heap.size v qs) (hle : b ≤ w.heap.size) : Aw w1 b vd v vl { e with mem:=qs }:=by
 obtain ⟨⟨okd,okm, -,h2, -⟩,h4⟩:=h
 exact ⟨⟨fun k => okd k ∧ k < w.heap.size,fun k => w.heap.size ≤ k,fun k h1 h2 => by omega,Kd.Fe h2 hb,Kd.Eb (Kd.Dt (Kd.Dg hv) (fun k hk => hk.2.1)) hle⟩,Kd.C8 h4 hb⟩
theorem Aw.reads' {w : World} {b : Nat} {A B C : Option Addr} {n m l a b' c : Nat} {e : Eng} (h : Aw w b (.slice A n a) (.slice B m b') (.slice C l c) e) : Ff w e A B C:=by
 obtain ⟨A',a',B',b2,C',c',h1,h2,h3, -,hc⟩:=h.reads
 injection h1 with h1
 injection h2 with h2
 injection h3 with h3
 subst h1 h2 h3
 exact hc
theorem U5 {x : Eng} (h : Ai x = 0) : BX x.log 3 = []:=by
 obtain ⟨h1,h2,h3⟩:=EJ h
 rw [EG,if_pos h1,if_pos h2,if_pos h3]
 rfl
theorem U4 {x : Eng} (h : Ai x ≠ 0) : ∃ l,BX x.log 3 = Ai x :: l:=by
 rw [EG]
 by_cases h1 : lastT x 1 = 0
 ·by_cases h2 : lastT x 2 = 0
  ·by_cases h3 : lastT x 3 = 0
   ·exact absurd (show Ai x = 0 by unfold Ai;rw [if_neg (by simpa using h1),if_neg (by simpa using h2),if_neg (by simpa using h3)]) h
   ·have hf : Ai x = 3:=by unfold Ai;rw [if_neg (by simpa using h1),if_neg (by simpa using h2),if_pos h3]
    exact ⟨[],by rw [if_pos h1,if_pos h2,if_neg h3,hf];rfl⟩
  ·have hf : Ai x = 2:=by unfold Ai;rw [if_neg (by simpa using h1),if_pos h2]
   exact ⟨_,by rw [if_pos h1,if_neg h2,hf];rfl⟩
 ·have hf : Ai x = 1:=by unfold Ai;rw [if_pos h1]
  exact ⟨_,by rw [if_neg h1,hf];rfl⟩
theorem KE {x : Eng} (h : Ai x = 0) : ∀ k,BJ k x = x
 | 0 => rfl
 | k + 1 => by rw [BJ,if_pos h]
theorem Ir : ∀ (k : Nat) (x : Eng),(BJ k x).disk = x.disk ∧ (BJ k x).safe = x.safe ∧ (BJ k x).down = x.down
 | 0,x => ⟨rfl,rfl,rfl⟩
 | k + 1,x => by
  rw [BJ]
  split
  ·exact ⟨rfl,rfl,rfl⟩
  ·exact Ir k (AY x (Ai x))
def Cc (e : Eng) : Eng:={ e with mem:=BI e.disk e.log e.log.length }
def upE (x : Eng) : Eng:=if Ai x = 0 then { x with down:=false } else { x with mem:=x.disk }
def upR (e : Eng) (steps : Int) : Eng × Bool:=if eOk e = true ∧ 0 ≤ steps then (if e.down = true then (upE (BJ steps.toNat (Cc e)),decide (Ai (BJ steps.toNat (Cc e)) = 0)) else (e,false)) else (zE,false)
theorem UF (e : Eng) (n : Nat) : La e n = upE (BJ n (Cc e)):=rfl
theorem DY.room' {x : Eng} (h : DY x) : x.log.length + AR x.log x.log.length ≤ 150:=Py.room h
theorem DY.all : ∀ (k : Nat) (x : Eng),DY x → DY (BJ k x)
 | 0,x,h => h
 | k + 1,x,h => by
  rw [BJ]
  split
  ·exact h
  ·rename_i h0
   exact DY.all k _ (h.step h0).2.1
set_option maxRecDepth 100000 in
set_option maxHeartbeats 6000000 in
theorem Wz {w0 w : World} {e : Eng} {Ad Am Al : Option Addr} {cd cm cl : Nat} (steps : Int) (hcl : e.log.length ≤ cl) (hb : Below w0.heap.size w0 w) (hr : Ff w0 e Ad Am Al) : Calls Tryz.prog 23 #[e.val Ad Am Al cd cm cl, .int .i64 steps] w (OL w (upR e steps).1 (upR e steps).2):=by
 have HR:=As (hr.up hb)
 clear hr hb
 obtain ⟨w1,hw1⟩ : ∃ w1,w.alloc (e.obox (.slice Ad e.disk.length cd) (.slice Am e.mem.length cm) (.slice Al e.log.length cl)) = w1:=⟨_,rfl⟩
 obtain ⟨w2,hw2⟩ : ∃ w2,w1.alloc (zE.obox (.slice none 0 0) (.slice none 0 0) (.slice none 0 0)) = w2:=⟨_,rfl⟩
 have hz1 : w1.heap.size = w.heap.size + 1:=by rw [← hw1];exact BD _ _
 have hz2 : w2.heap.size = w.heap.size + 2:=by rw [← hw2,BD,hz1]
 have hb12 : Below w1.heap.size w1 w2:=by rw [← hw2];exact Aa (Below.refl _ _) _
 have HB2 : A7 (Below w.heap.size w w2):=⟨by rw [← hw2, ← hw1];exact Aa (Aa (Below.refl _ _) _) _⟩
 have HQ2 : A7 (Ab w2 w.heap.size e (.slice Ad e.disk.length cd) (.slice Am e.mem.length cm) (.slice Al e.log.length cl)):=⟨Ab.up (by rw [← hw1];exact Ab.mk1 _ _ _ _ _) hb12⟩
 have HP2 : A7 (Ab w2 (w.heap.size + 1) zE (.slice none 0 0) (.slice none 0 0) (.slice none 0 0)):=⟨by rw [← hw2, ← hz1];exact Ab.mk1 _ _ _ _ _⟩
 have HW2 : A7 ((w.alloc (e.obox (.slice Ad e.disk.length cd) (.slice Am e.mem.length cm) (.slice Al e.log.length cl))).alloc (zE.obox (.slice none 0 0) (.slice none 0 0) (.slice none 0 0)) = w2):=⟨by rw [hw1,hw2]⟩
 have HZ2:=As hz2
 clear hw1 hw2 hz1 hz2 hb12
 have x0:=HQ2.out.c0
 have x1:=HQ2.out.c1
 have x2:=HQ2.out.c2
 have x3:=HQ2.out.c3
 have x4:=HQ2.out.c4
 cases hv : eOk e
 ·have HV:=As hv
  have hE : upR e steps = (zE,false):=by rw [upR,if_neg (by rw [hv];simp)]
  rw [hE]
  clear hv hE
  go_enter Tryz.func23,Tryz.ntmps23
  go_wp2_with (go_at_call 16;rw [show (w.alloc (Obj.cells #[Value.slice Ad e.disk.length cd,Value.slice Am e.mem.length cm,Value.slice Al e.log.length cl,Value.int IntKind.i64 e.safe,Value.bool e.down] 26)).alloc (Obj.cells #[Value.slice none 0 0,Value.slice none 0 0,Value.slice none 0 0,Value.int IntKind.i64 0,Value.bool false] 26) = w2 from HW2.out];refine (BU (cd:=cd) (cm:=cm) HV.out hcl HB2.out HR.out).mono ?_;rintro x w3 ⟨rfl,hb3⟩;have HB3:=As (bj HB2.out hb3);have HP3:=As (HP2.out.up hb3);have y0:=HP3.out.c0;have y1:=HP3.out.c1;have y2:=HP3.out.c2;have y3:=HP3.out.c3;have y4:=HP3.out.c4;have f0:=HP3.out.frz 0;have f1:=HP3.out.frz 1;have f2:=HP3.out.frz 2;have f3:=HP3.out.frz 3;have f4:=HP3.out.frz 4;clear hb3)
  obtain ⟨z0,z1,z2,z3,z4⟩:=HP3.out.empty
  exact bodyPost_ret (v:=.tuple #[zEv, .bool false]) (by simp [results,Tryz.results23,go_sem,z0,z1,z2,z3,z4]) rfl ⟨_,_,_,rfl,Hz _ _,Aj (g:=w.heap.size + 1) HB3.out (by omega) zE _ _ _⟩
 ·have HV:=As hv
  have HF:=As (Ct.1 hv)
  clear hv
  rcases lts steps 0 with ⟨e1,b1,c1⟩ | ⟨e1,b1,c1⟩
  ·have hE : upR e steps = (zE,false):=by rw [upR,if_neg (by have:=e1.out;omega)]
   rw [hE]
   clear hE
   have hl0:=e1.out
   go_enter Tryz.func23,Tryz.ntmps23
   go_wp2_with (go_at_call 16;rw [show (w.alloc (Obj.cells #[Value.slice Ad e.disk.length cd,Value.slice Am e.mem.length cm,Value.slice Al e.log.length cl,Value.int IntKind.i64 e.safe,Value.bool e.down] 26)).alloc (Obj.cells #[Value.slice none 0 0,Value.slice none 0 0,Value.slice none 0 0,Value.int IntKind.i64 0,Value.bool false] 26) = w2 from HW2.out];refine (BU (cd:=cd) (cm:=cm) HV.out hcl HB2.out HR.out).mono ?_;rintro x w3 ⟨rfl,hb3⟩;have HB3:=As (bj HB2.out hb3);have HP3:=As (HP2.out.up hb3);have y0:=HP3.out.c0;have y1:=HP3.out.c1;have y2:=HP3.out.c2;have y3:=HP3.out.c3;have y4:=HP3.out.c4;have f0:=HP3.out.frz 0;have f1:=HP3.out.frz 1;have f2:=HP3.out.frz 2;have f3:=HP3.out.frz 3;have f4:=HP3.out.frz 4;clear hb3)
   obtain ⟨z0,z1,z2,z3,z4⟩:=HP3.out.empty
   exact bodyPost_ret (v:=.tuple #[zEv, .bool false]) (by simp [results,Tryz.results23,go_sem,z0,z1,z2,z3,z4]) rfl ⟨_,_,_,rfl,Hz _ _,Aj (g:=w.heap.size + 1) HB3.out (by omega) zE _ _ _⟩
  ·obtain ⟨n,hn⟩ : ∃ n : Nat,steps = (n : Int):=⟨steps.toNat,by have:=e1.out;omega⟩
   subst hn
   have HLG:=As (BA HF.out.log)
   have hn0 : (0 : Int) ≤ (n : Int):=by omega
   cases hdn : e.down
   ·have hE : upR e (n : Int) = (e,false):=by rw [upR,if_pos ⟨HV.out,e1.out⟩,if_neg (by rw [hdn];simp)]
    rw [hE]
    have HDN:=As hdn
    clear hE hdn
    go_enter Tryz.func23,Tryz.ntmps23
    go_wp2_with (first
     | (go_at_call 16;rw [show (w.alloc (Obj.cells #[Value.slice Ad e.disk.length cd,Value.slice Am e.mem.length cm,Value.slice Al e.log.length cl,Value.int IntKind.i64 e.safe,Value.bool e.down] 26)).alloc (Obj.cells #[Value.slice none 0 0,Value.slice none 0 0,Value.slice none 0 0,Value.int IntKind.i64 0,Value.bool false] 26) = w2 from HW2.out];refine (BU (cd:=cd) (cm:=cm) HV.out hcl HB2.out HR.out).mono ?_;rintro x w3 ⟨rfl,hb3⟩;have HX3:=As hb3;replace x0:=bc hb3 x0;replace x1:=bc hb3 x1;replace x2:=bc hb3 x2;replace x3:=bc hb3 x3;replace x4:=bc hb3 x4;clear hb3)
     | (go_at_call 47;refine (IU (cd:=cd) (cm:=cm) (cl:=cl) (AZ HF.out.disk) (AZ HF.out.mem) HLG.out (bj HB2.out HX3.out) HR.out).mono ?_;rintro x w4 ⟨vd,vm,vl,rfl,ho,hb4⟩;obtain ⟨Bd,dd,Bm,dm,Bl,dl,rfl,rfl,rfl, -, -⟩:=ho.reads;have HO4:=As ho;have HX4:=As (bj HX3.out hb4);have HN4:=As (Nat.le_trans HX3.out.size (Nat.le_refl _));clear ho hb4 x0 x1 x2 x3 x4)
     | (refine Ca (vd:=.slice Bd e.disk.length dd) (vm:=.slice Bm e.mem.length dm) (vl:=.slice Bl e.log.length dl) e ?_;intro w5 hb5 _ hq5;have HO5:=As (HO4.out.below hb5);have HX5:=As (bj HX4.out hb5);have x0:=hq5.c0;have x1:=hq5.c1;have x2:=hq5.c2;have x3:=hq5.c3;have x4:=hq5.c4;rw [HDN.out] at x4;have HP5:=As (HP2.out.up HX5.out);have y0:=HP5.out.c0;have y1:=HP5.out.c1;have y2:=HP5.out.c2;have y3:=HP5.out.c3;have y4:=HP5.out.c4;have f0:=HP5.out.frz 0;have f1:=HP5.out.frz 1;have f2:=HP5.out.frz 2;have f3:=HP5.out.frz 3;have f4:=HP5.out.frz 4;clear hb5 hq5))
    have hz:=HZ2.out
    have hn3:=HX3.out.size
    have hy:=HP5.out.Ap ⟨e.disk,e.mem,e.log,e.safe,false⟩ (.slice Bd e.disk.length dd) (.slice Bm e.mem.length dm) (.slice Bl e.log.length dl)
    have h1:=HO5.out.Ap (f:=⟨e.disk,e.mem,e.log,e.safe,false⟩) (xd:=.slice Bd e.disk.length dd) (xm:=.slice Bm e.mem.length dm) (xl:=.slice Bl e.log.length dl) HP5.out
    have h2:=Aj (g:=w.heap.size + 1) (bj HB2.out HX5.out) (by omega) ⟨e.disk,e.mem,e.log,e.safe,false⟩ (.slice Bd e.disk.length dd) (.slice Bm e.mem.length dm) (.slice Bl e.log.length dl)
    have z0:=hy.c0
    have z1:=hy.c1
    have z2:=hy.c2
    have z3:=hy.c3
    have z4:=hy.c4
    simp only at z0 z1 z2 z3 z4
    exact bodyPost_ret (v:=.tuple #[.agg #[.slice Bd e.disk.length dd, .slice Bm e.mem.length dm, .slice Bl e.log.length dl, .int .i64 e.safe, .bool false], .bool false]) (by simp [results,Tryz.results23,go_sem,z0,z1,z2,z3,z4]) rfl ⟨.slice Bd e.disk.length dd, .slice Bm e.mem.length dm, .slice Bl e.log.length dl,by unfold Eng.ag;rw [HDN.out],h1.lower (by omega),h2⟩
   ·obtain ⟨X,hX⟩ : ∃ X,BJ n (Cc e) = X:=⟨_,rfl⟩
    have hE : upR e (n : Int) = (upE X,decide (Ai X = 0)):=by rw [upR,if_pos ⟨HV.out,e1.out⟩,if_pos hdn,Int.toNat_natCast,hX]
    rw [hE]
    obtain ⟨R,hR⟩ : ∃ R,BI e.disk e.log e.log.length = R:=⟨_,rfl⟩
    have HRR:=As hR
    have hst : Cc e = { e with mem:=R }:=by rw [Cc,hR]
    have hro : DY { e with mem:=R }:=by rw [← hst];exact HF.out.rise
    have HRO:=As hro
    have HRX:=As (show BJ n { e with mem:=R } = X by rw [← hst];exact hX)
    have HDN:=As hdn
    have HGD:=As (AZ HF.out.disk)
    clear hE hdn hX hR hst hro
    go_enter Tryz.func23,Tryz.ntmps23
    go_wp2_with (first
     | (go_at_call 16;rw [show (w.alloc (Obj.cells #[Value.slice Ad e.disk.length cd,Value.slice Am e.mem.length cm,Value.slice Al e.log.length cl,Value.int IntKind.i64 e.safe,Value.bool e.down] 26)).alloc (Obj.cells #[Value.slice none 0 0,Value.slice none 0 0,Value.slice none 0 0,Value.int IntKind.i64 0,Value.bool false] 26) = w2 from HW2.out];refine (BU (cd:=cd) (cm:=cm) HV.out hcl HB2.out HR.out).mono ?_;rintro x w3 ⟨rfl,hb3⟩;have HX3:=As hb3;replace x0:=bc hb3 x0;replace x1:=bc hb3 x1;replace x2:=bc hb3 x2;replace x3:=bc hb3 x3;replace x4:=bc hb3 x4;clear hb3)
     | (go_at_call 47;refine (IU (cd:=cd) (cm:=cm) (cl:=cl) (AZ HF.out.disk) (AZ HF.out.mem) HLG.out (bj HB2.out HX3.out) HR.out).mono ?_;rintro x w4 ⟨vd,vm,vl,rfl,ho,hb4⟩;obtain ⟨Bd,dd,Bm,dm,Bl,dl,rfl,rfl,rfl, -,hc⟩:=ho.reads;have HO4:=As ho;have HX4:=As (bj HX3.out hb4);have HN4:=As (Nat.le_trans HX3.out.size (Nat.le_refl _));have HC4:=As hc;have HN34:=As hb4.size;have HX43:=As hb4;clear ho hb4 hc x0 x1 x2 x3 x4)
     | (refine Ca (vd:=.slice Bd e.disk.length dd) (vm:=.slice Bm e.mem.length dm) (vl:=.slice Bl e.log.length dl) e ?_;intro w5 hb5 hz5 hq5;have HO5:=As (HO4.out.below hb5);have HX5:=As (bj HX4.out hb5);have HC5:=As (HC4.out.up hb5);have HQ5:=As hq5;have x0:=hq5.c0;have x1:=hq5.c1;have x2:=hq5.c2;have x3:=hq5.c3;have x4:=hq5.c4;rw [HDN.out] at x4;have HB35:=As (bj HX43.out hb5);clear hb5 hq5)
     | (go_at_call 43;refine (KG (w0:=w5) (c:=dd) (d:=dl) HGD.out (fun k hk => (Ag HF.out.log hk).ok) HLG.out (Below.refl _ _) HC5.out.d HC5.out.l).mono ?_;rw [HRR.out];rintro x w6 ⟨v,rfl,ho,hb6⟩;obtain ⟨Bn,dn,rfl, -, -⟩:=Kd.CV ho;have HO6:=As (Gg HO5.out hb6 ho HB35.out.size);have hq6:=HQ5.out.up hb6;have HQ6:=As hq6;have HB36:=As (bj HB35.out hb6);have g1:=hq6.frz 1;have x1':=hq6.c1;have x2':=hq6.c2;clear ho hb6 hq6 x0 x1 x2 x3 x4)
     | (go_at_call 49;obtain ⟨w7,hw7⟩ : ∃ w7,w6.setCell ⟨w4.heap.size,1,none⟩ (.slice Bn R.length dn) = w7:=⟨_,rfl⟩;have hq7 : Ab w7 w4.heap.size { e with mem:=R } (.slice Bd e.disk.length dd) (.slice Bn R.length dn) (.slice Bl e.log.length dl):=(by rw [← hw7];exact HQ6.out.set1 _);have ho7 : Aw w7 w3.heap.size (.slice Bd e.disk.length dd) (.slice Bn R.length dn) (.slice Bl e.log.length dl) { e with mem:=R }:=(by rw [← hw7];exact HO6.out.Dy HQ6.out 1 _);have hb7 : Below w3.heap.size w3 w7:=(by rw [← hw7];exact HB36.out.setCell (p:=⟨w4.heap.size,1,none⟩) HN34.out _);have hc7:=ho7.reads';rw [hw7];refine (Fu (w0:=w7) (c:=dl) (Below.refl _ _) hc7.l).mono ?_;rintro x w8 ⟨v,rfl,ho,hb8⟩;obtain ⟨Av,cv,rfl, -,hvc⟩:=ho.reads;have HEG0:=As (JZ.up ⟨⟨_,_,_,hq7,ho7⟩,hb7,HN34.out⟩ hb8);have HVC:=As hvc;clear hw7 hq7 ho7 hb7 hc7 ho hb8 hvc x1' x2' g1))
    have HX4G : A7 (w3.heap.size ≤ w4.heap.size):=HN34
    have hroom:=HRO.out.room'
    go_loopw [7,8] (fun l i wr => ∃ (k : Nat) (x : Eng) (A : Option Addr) (c : Nat),k ≤ n ∧ l = .slice A (BX x.log 3).length c ∧ i = .int .i64 (k : Int) ∧ A7 (Kd.C (Kd.int .i64) wr A (BX x.log 3).length (BX x.log 3)) ∧ A7 (JZ w3 wr w4.heap.size x) ∧ A7 (DY x ∧ BJ (n - k) x = X) ∧ k + AR x.log x.log.length ≤ 150) (fun _ i _ => (n - intOf i).toNat)
    case atStart => exact ⟨0,{ e with mem:=R },Av,cv,Nat.zero_le _,rfl,rfl,HVC,HEG0,⟨HRO.out,HRX.out⟩,by show 0 + AR e.log e.log.length ≤ 150;have : e.log.length + AR e.log e.log.length ≤ 150:=hroom;omega⟩
    case round =>
     obtain ⟨k,x,A,c,hk,rfl,rfl,HVl,HEG,HRK,hkn⟩:=hrel
     by_cases h0 : Ai x = 0
     ·have hXx : X = x:=by rw [← HRK.out.2,KE h0]
      have hU1 : upE X = { x with down:=false }:=by rw [hXx,upE,if_pos h0]
      have hU2 : decide (Ai X = 0) = true:=by rw [hXx];simp [h0]
      have hol : BX x.log 3 = []:=U5 h0
      rw [hol]
      have HU:=As (And.intro hU1 hU2)
      clear hXx hol hU1 hU2 h0 hkn hroom
      by_cases hlt : k < n
      all_goals
       have hx2:=bj HX3.out HEG.out.bel
       obtain ⟨vd,vm,vl,hq,ho⟩:=HEG.out.ex
       obtain ⟨Ed,n1,Em,n2,El,n3,rfl,rfl,rfl, -, -⟩:=ho.reads
       have q0:=hq.c0
       have q1:=hq.c1
       have q2:=hq.c2
       have q3:=hq.c3
       have q4:=hq.c4
       have g4:=hq.frz 4
       have hp:=HP2.out.up hx2
       have y0:=hp.c0
       have y1:=hp.c1
       have y2:=hp.c2
       have y3:=hp.c3
       have y4:=hp.c4
       have f0:=hp.frz 0
       have f1:=hp.frz 1
       have f2:=hp.frz 2
       have f3:=hp.frz 3
       have f4:=hp.frz 4
       have HQ:=As hq
       have HO:=As ho
       have HP:=As hp
       have HX:=As hx2
       have HG:=As HEG.out.ge
       clear hq ho hp hx2
       have hne1 : ¬ w4.heap.size = w.heap.size + 1:=by have:=HZ2.out;have:=HX3.out.size;have:=HX4G.out;omega
       have hne2 : ¬ w.heap.size + 1 = w4.heap.size:=fun e => hne1 e.symm
       go_wp2
       have hz:=HZ2.out
       have hn3:=HX3.out.size
       have hge:=HG.out
       have hgl:=HX4G.out
       have r1:=HO.out.Dy HQ.out 4 (.bool false)
       have p1:=HP.out.far (b:=w4.heap.size) (by omega) 4 (.bool false)
       have b1:=(bj HB2.out HX.out).setCell (p:=⟨w4.heap.size,4,none⟩) (by show w.heap.size ≤ w4.heap.size;omega) (.bool false)
       have hy:=p1.Ap { x with down:=false } (.slice Ed x.disk.length n1) (.slice Em x.mem.length n2) (.slice El x.log.length n3)
       have h1:=r1.Ap (f:={ x with down:=false }) (xd:=.slice Ed x.disk.length n1) (xm:=.slice Em x.mem.length n2) (xl:=.slice El x.log.length n3) p1
       have h2:=Aj (g:=w.heap.size + 1) b1 (by omega) { x with down:=false } (.slice Ed x.disk.length n1) (.slice Em x.mem.length n2) (.slice El x.log.length n3)
       have z0:=hy.c0
       have z1:=hy.c1
       have z2:=hy.c2
       have z3:=hy.c3
       have z4:=hy.c4
       simp only at z0 z1 z2 z3 z4
       have hd1 : Aw (Go.Proofs.YtjeodgfkilhkhaaGreat.Ap (wr.setCell ⟨w4.heap.size,4,none⟩ (.bool false)) (w.heap.size + 1) { x with down:=false } (.slice Ed x.disk.length n1) (.slice Em x.mem.length n2) (.slice El x.log.length n3)) w3.heap.size (.slice Ed x.disk.length n1) (.slice Em x.mem.length n2) (.slice El x.log.length n3) { x with down:=false }:=⟨h1.ex,h1.l⟩
       exact bodyPost_ret (v:=.tuple #[.agg #[.slice Ed x.disk.length n1, .slice Em x.mem.length n2, .slice El x.log.length n3, .int .i64 x.safe, .bool false], .bool true]) (by simp [results,Tryz.results23,go_sem,z0,z1,z2,z3,z4]) rfl ⟨.slice Ed x.disk.length n1, .slice Em x.mem.length n2, .slice El x.log.length n3,by rw [HU.out.1,HU.out.2],by rw [HU.out.1];exact hd1.lower (by omega),h2⟩
     ·obtain ⟨rest,hopen⟩:=U4 h0
      have hlen : (BX x.log 3).length = rest.length + 1:=by rw [hopen];rfl
      have hv0 : iv (BX x.log 3) 0 = Ai x:=by rw [hopen];rfl
      have HV0:=As hv0
      have HLN:=As hlen
      by_cases hlt : k < n
      ·obtain ⟨hso,hro',hnd⟩:=HRK.out.1.step h0
       have hrk : BJ (n - (k + 1)) (AY x (Ai x)) = X:=by
        have h:=HRK.out.2
        rw [show n - k = (n - (k + 1)) + 1 by omega,BJ,if_neg h0] at h
        exact h
       obtain ⟨t,ht⟩ : ∃ t,Ai x = t:=⟨_,rfl⟩
       rw [ht] at hso hro' hnd hrk hv0
       have HSO:=As hso
       have HNX:=As (And.intro hro' hrk)
       have HND:=As (show k + 1 + AR (AY x t).log (AY x t).log.length ≤ 150 by omega)
       have hk150 : k ≤ 150:=by omega
       obtain ⟨ad,rfl,g0⟩:=DW HVl.out 0 (by omega)
       rw [hv0] at g0
       have e0 : ad.add 0 = ad:=by simp [Addr.add]
       have g0' : wr.cell? ad = some (.int .i64 t):=by rw [← e0];exact g0
       have hwr : IntKind.i64.wrap ((k : Int) + 1) = (k : Int) + 1:=by simp (disch:=omega) only [IntWalk.i64_in]
       rw [hlen]
       clear hso hro' hnd hrk hv0 hopen h0 hkn hroom ht hlen HV0 HLN e0
       go_wp2_with (first
        | (go_at_call 50;refine (Ro HSO.out HEG.out).mono ?_;rintro x1 w9 ⟨⟨v1,rfl⟩,hg9⟩;have HG9:=As hg9;obtain ⟨ud,um,ul,hq9,ho9⟩:=hg9.ex;obtain ⟨Ud,u1,Um,u2,Ul,u3,rfl,rfl,rfl, -,hc9⟩:=ho9.reads;have x2':=hq9.c2;have HC9:=As hc9;clear hg9 hq9 ho9 hc9 g0 g0')
        | (go_at_call 49;refine (Fu (w0:=w9) (c:=u3) (Below.refl _ _) HC9.out.l).mono ?_;rintro x1 w10 ⟨v2,rfl,ho,hb10⟩;obtain ⟨Av2,cv2,rfl, -,hvc⟩:=ho.reads;have HEG2:=As (HG9.out.up hb10);have HVC2:=As hvc;clear ho hb10 hvc x2'))
       go_roundw
       case rel => exact ⟨k + 1,AY x t,Av2,cv2,by omega,rfl,by go_num,HVC2,HEG2,HNX,HND.out⟩
       case measure => simp [intOf];omega
      ·have hkn' : k = n:=by omega
       have hXx : X = x:=by
        have h:=HRK.out.2
        rw [hkn',Nat.sub_self] at h
        exact h.symm
       have HU:=As (show upE X = { x with mem:=x.disk } ∧ decide (Ai X = 0) = false from ⟨by rw [hXx,upE,if_neg h0],by rw [hXx];simp [h0]⟩)
       have HGX:=As (show geo x.disk from by
        have h1:=(Ir n { e with mem:=R }).1
        rw [HRX.out,hXx] at h1
        rw [h1]
        exact HGD.out)
       have hx2:=bj HX3.out HEG.out.bel
       obtain ⟨vd,vm,vl,hq,ho⟩:=HEG.out.ex
       obtain ⟨Ed,n1,Em,n2,El,n3,rfl,rfl,rfl, -,hc⟩:=ho.reads
       have q0:=hq.c0
       have HQ:=As hq
       have HO:=As ho
       have HC:=As hc
       have HEB:=As HEG.out.bel
       rw [hlen]
       clear hq ho hc hx2 hXx h0 hkn hroom hopen hv0 hlen HV0 HLN hkn'
       have hne1 : ¬ w4.heap.size = w.heap.size + 1:=by have:=HZ2.out;have:=HX3.out.size;have:=HX4G.out;omega
       have hne2 : ¬ w.heap.size + 1 = w4.heap.size:=fun e => hne1 e.symm
       go_wp2_with (go_at_call 36;refine (EW (w0:=wr) (c:=n1) (ET HGX.out) (by have:=HGX.out.1;omega) (Below.refl _ _) HC.out.d).mono ?_;rintro x1 w9 ⟨v1,rfl,ho9,hb9⟩;obtain ⟨Cd,k1,rfl, -, -⟩:=Kd.CV ho9;have HO9:=As (Gg HO.out hb9 ho9 HEB.out.size);have hq9:=HQ.out.up hb9;have HQ9:=As hq9;have HB9:=As (bj HEB.out hb9);have hp9:=HP2.out.up (bj HX3.out HB9.out);have HP9:=As hp9;have g1:=hq9.frz 1;have q0':=hq9.c0;have q1':=hq9.c1;have q2':=hq9.c2;have q3':=hq9.c3;have q4':=hq9.c4;have y0:=hp9.c0;have y1:=hp9.c1;have y2:=hp9.c2;have y3:=hp9.c3;have y4:=hp9.c4;have f0:=hp9.frz 0;have f1:=hp9.frz 1;have f2:=hp9.frz 2;have f3:=hp9.frz 3;have f4:=hp9.frz 4;clear ho9 hb9 hq9 hp9 q0)
       have hz:=HZ2.out
       have hn3:=HX3.out.size
       have hgl:=HX4G.out
       have r1:=HO9.out.Dy HQ9.out 1 (.slice Cd x.disk.length k1)
       have p1:=HP9.out.far (b:=w4.heap.size) (by omega) 1 (.slice Cd x.disk.length k1)
       have b1:=(bj HB2.out (bj HX3.out HB9.out)).setCell (p:=⟨w4.heap.size,1,none⟩) (by show w.heap.size ≤ w4.heap.size;omega) (.slice Cd x.disk.length k1)
       have hy:=p1.Ap { x with mem:=x.disk } (.slice Ed x.disk.length n1) (.slice Cd x.disk.length k1) (.slice El x.log.length n3)
       have h1:=r1.Ap (f:={ x with mem:=x.disk }) (xd:=.slice Ed x.disk.length n1) (xm:=.slice Cd x.disk.length k1) (xl:=.slice El x.log.length n3) p1
       have h2:=Aj (g:=w.heap.size + 1) b1 (by omega) { x with mem:=x.disk } (.slice Ed x.disk.length n1) (.slice Cd x.disk.length k1) (.slice El x.log.length n3)
       have z0:=hy.c0
       have z1:=hy.c1
       have z2:=hy.c2
       have z3:=hy.c3
       have z4:=hy.c4
       simp only at z0 z1 z2 z3 z4
       exact bodyPost_ret (v:=.tuple #[.agg #[.slice Ed x.disk.length n1, .slice Cd x.disk.length k1, .slice El x.log.length n3, .int .i64 x.safe, .bool x.down], .bool false]) (by simp [results,Tryz.results23,go_sem,z0,z1,z2,z3,z4]) rfl ⟨.slice Ed x.disk.length n1, .slice Cd x.disk.length k1, .slice El x.log.length n3,by rw [HU.out.1,HU.out.2],by rw [HU.out.1];exact h1.lower (by omega),h2⟩
def Ma (e : Eng) (p : Nat) : Bool:=(pg e.mem p).lsn == AO e.log p e.log.length && (decide ((pg e.disk p).lsn < (pg e.mem p).lsn) || D8 (pg e.mem p) (pg e.disk p))
set_option maxRecDepth 100000 in
set_option maxHeartbeats 8000000 in
theorem Ny {w0 w : World} {e : Eng} {Ad Am Al : Option Addr} {cd cm cl : Nat} {p : Nat} {b : Bool} (hv : Ma e p = b) (hp : p < 5) (hd : Et e.disk = true) (hm : Et e.mem = true) (hb : Below w0.heap.size w0 w) (hr : Ff w0 e Ad Am Al) : Calls Tryz.prog 59 #[e.val Ad Am Al cd cm cl, .int .i64 p] w fun x w' => x = .returned (.bool b) ∧ Below w.heap.size w w':=by
 have HR:=As (hr.up hb)
 have HV:=As hv
 have hd5:=Bb.1 hd
 have hm5:=Bb.1 hm
 have HOK:=As (And.intro (hm5.2 p hp) (hd5.2 p hp))
 have hpd : p < e.disk.length:=by omega
 have hpm : p < e.mem.length:=by omega
 clear hr hb hv hd hm hd5 hm5
 obtain ⟨adm,Am2,cm2,rfl,QM, -,hmC⟩:=DT HR.out.m p hpm
 obtain ⟨add,Ad2,cd2,rfl,QD, -,hdC⟩:=DT HR.out.d p hpd
 obtain ⟨M,hM⟩ : ∃ M,pg e.mem p = M:=⟨_,rfl⟩
 obtain ⟨Dp,hD⟩ : ∃ Dp,pg e.disk p = Dp:=⟨_,rfl⟩
 rw [hM] at QM hmC HOK
 rw [hD] at QD hdC HOK
 have HMC:=As hmC
 have HDC:=As hdC
 have HMD:=As (And.intro hM hD)
 obtain ⟨sD,hsD⟩ : ∃ sD,D8 M Dp = sD:=⟨_,rfl⟩
 have HSD:=As hsD
 clear hmC hdC hM hD hsD
 obtain ⟨w1,hw1⟩ : ∃ w1,w.alloc (e.obox (.slice (some add) e.disk.length cd) (.slice (some adm) e.mem.length cm) (.slice Al e.log.length cl)) = w1:=⟨_,rfl⟩
 have HW1:=As hw1
 have HB1 : A7 (Below w.heap.size w w1):=⟨by rw [← hw1];exact Aa (Below.refl _ _) _⟩
 have HQ1 : A7 (Ab w1 w.heap.size e (.slice (some add) e.disk.length cd) (.slice (some adm) e.mem.length cm) (.slice Al e.log.length cl)):=⟨by rw [← hw1];exact Ab.mk1 _ _ _ _ _⟩
 clear hw1
 have x0:=HQ1.out.c0
 have x1:=HQ1.out.c1
 have x2:=HQ1.out.c2
 obtain ⟨m0,m1,m2⟩:=QM.up HB1.out
 obtain ⟨d0,d1,d2⟩:=QD.up HB1.out
 rcases BS M.lsn (AO e.log p e.log.length) with ⟨e2,b2,c2⟩ | ⟨e2,b2,c2⟩
 ·rcases lts Dp.lsn M.lsn with ⟨e3,k1,k2⟩ | ⟨e3,k1,k2⟩
  all_goals
   go_enter Tryz.func59,Tryz.ntmps59
   go_wp2
   rw [HW1.out]
   refine Aq (fun w' => Below w1.heap.size w1 w') rfl rfl (by kernel_rfl) (Ac (Below.refl _ _)) (fun HT => ?_)
   repeat (first
    | (refine AQ (fun wx hS => ?_))
    | ((with_reducible refine Ay (f:=99) rfl ?_);refine Az (v:=.int .i64 (AO e.log p e.log.length)) (args:=#[.slice Al e.log.length cl, .int .i64 p]) HT rfl Tryz.func99 (by kernel_rfl) rfl rfl (by rfl) (fun _ _ _ h => h) (by simp only [List.map_toArray,List.map_cons,List.map_nil];rfl) (fun wx hS => (Kv (p : Int) (bj HB1.out hS) HR.out.l).mono fun _ _ h => ⟨h.1,h.2 ▸ hS⟩) ?_;simp only [sc0,sc1])
    | ((with_reducible refine Ay (f:=57) rfl ?_);refine Az (v:=.bool sD) (args:=#[M.val Am2 cm2,Dp.val Ad2 cd2]) HT rfl Tryz.func57 (by kernel_rfl) rfl rfl (by rfl) (fun _ _ _ h => h) (by simp only [List.map_toArray,List.map_cons,List.map_nil];rfl) (fun wx hS => (Gn (c:=cm2) (d:=cd2) HSD.out HOK.out.1 HOK.out.2 (bj HB1.out hS) HMC.out HDC.out).mono fun _ _ h => ⟨h.1,bj hS h.2⟩) ?_;simp only [sc0,sc1])
    | (refine AB HT rfl (by rfl) (fun _ _ _ h => h) ?_;simp only [sc0,sc1])
    | (refine AP (v:=?_) HT rfl (by rfl) (fun _ _ _ h => h) (fun wx hS => ?_) ?_;rotate_left;(replace x0:=bc hS x0;replace x1:=bc hS x1;replace x2:=bc hS x2;replace m0:=bc hS m0;replace m1:=bc hS m1;replace m2:=bc hS m2;replace d0:=bc hS d0;replace d1:=bc hS d1;replace d2:=bc hS d2;go_simp;with_reducible rfl);rotate_left;simp only [sc0,sc1]))
   go_wp2
   go_ret
   exact ⟨Af (by rw [← HV.out,Ma,HMD.out.1,HMD.out.2,HSD.out];simp [b2,k1]),bj HB1.out hS⟩
 ·go_enter Tryz.func59,Tryz.ntmps59
  go_wp2
  rw [HW1.out]
  refine Aq (fun w' => Below w1.heap.size w1 w') rfl rfl (by kernel_rfl) (Ac (Below.refl _ _)) (fun HT => ?_)
  repeat (first
   | (refine AQ (fun wx hS => ?_))
   | ((with_reducible refine Ay (f:=99) rfl ?_);refine Az (v:=.int .i64 (AO e.log p e.log.length)) (args:=#[.slice Al e.log.length cl, .int .i64 p]) HT rfl Tryz.func99 (by kernel_rfl) rfl rfl (by rfl) (fun _ _ _ h => h) (by simp only [List.map_toArray,List.map_cons,List.map_nil];rfl) (fun wx hS => (Kv (p : Int) (bj HB1.out hS) HR.out.l).mono fun _ _ h => ⟨h.1,h.2 ▸ hS⟩) ?_;simp only [sc0,sc1])
   | (refine AB HT rfl (by rfl) (fun _ _ _ h => h) ?_;simp only [sc0,sc1])
   | (refine AP (v:=?_) HT rfl (by rfl) (fun _ _ _ h => h) (fun wx hS => ?_) ?_;rotate_left;(replace x0:=bc hS x0;replace x1:=bc hS x1;replace x2:=bc hS x2;replace m0:=bc hS m0;replace m1:=bc hS m1;replace m2:=bc hS m2;replace d0:=bc hS d0;replace d1:=bc hS d1;replace d2:=bc hS d2;go_simp;with_reducible rfl);rotate_left;simp only [sc0,sc1]))
  go_wp2
  go_ret
  exact ⟨Af (by rw [← HV.out,Ma,HMD.out.1,HMD.out.2,HSD.out];simp [b2]),bj HB1.out hS⟩
def Dq (l : List Rec) (p : Int) : Nat → Nat
 | 0 => 0
 | j + 1 => (if Fy l (Ae l (3 - j : Int) l.length) p = true then 1 else 0) + Dq l p j
theorem Ub (l : List Rec) (p : Int) : (F7 l p (BX l 3) 0 true).2 = decide (Dq l p 3 ≤ 1):=by
 have e1 : (3 - ((2 : Nat) : Int)) = 1:=rfl
 have e2 : (3 - ((1 : Nat) : Int)) = 2:=rfl
 have e3 : (3 - ((0 : Nat) : Int)) = 3:=rfl
 rw [EG,Dq,Dq,Dq,Dq,e1,e2,e3]
 by_cases h1 : Ae l 1 l.length = 0 <;> by_cases h2 : Ae l 2 l.length = 0 <;> by_cases h3 : Ae l 3 l.length = 0 <;> cases k1 : Fy l (Ae l 1 l.length) p <;> cases k2 : Fy l (Ae l 2 l.length) p <;> cases k3 : Fy l (Ae l 3 l.length) p <;> simp_all [F7,Gi]
set_option maxRecDepth 100000 in
set_option maxHeartbeats 16000000 in
theorem Cw {w0 w : World} {e : Eng} {Ad Am Al : Option Addr} {cd cm cl : Nat} {b : Bool} (hv : eOk e = b) (hcl : e.log.length ≤ cl) (hb : Below w0.heap.size w0 w) (hr : Ff w0 e Ad Am Al) : Calls Tryz.prog 24 #[e.val Ad Am Al cd cm cl] w fun x w' => x = .returned (.bool b) ∧ Below w.heap.size w w':=by
 have HR:=As (hr.up hb)
 have HV:=As hv
 have hlm:=(CY HR.out.l).2
 clear hr hb hv
 obtain ⟨w1,hw1⟩ : ∃ w1,w.alloc (e.obox (.slice Ad e.disk.length cd) (.slice Am e.mem.length cm) (.slice Al e.log.length cl)) = w1:=⟨_,rfl⟩
 have HW1:=As hw1
 have HB1 : A7 (Below w.heap.size w w1):=⟨by rw [← hw1];exact Aa (Below.refl _ _) _⟩
 have HQ1 : A7 (Ab w1 w.heap.size e (.slice Ad e.disk.length cd) (.slice Am e.mem.length cm) (.slice Al e.log.length cl)):=⟨by rw [← hw1];exact Ab.mk1 _ _ _ _ _⟩
 clear hw1
 have HX:=As (Below.refl w1.heap.size w1)
 have x0:=HQ1.out.c0
 have x1:=HQ1.out.c1
 have x2:=HQ1.out.c2
 have x3:=HQ1.out.c3
 have x4:=HQ1.out.c4
 cases hvd : Et e.disk
 ·have HVd:=As hvd
  clear hvd
  go_enter Tryz.func24,Tryz.ntmps24
  go_wp2_with (first | (go_at_call 51;rw [HW1.out];refine (CP (c:=cd) HVd.out (bj HB1.out HX.out) HR.out.d).mono ?_;rintro x w9 ⟨rfl,hb9⟩;have HX:=As (bj HX.out hb9);replace x0:=bc hb9 x0;replace x1:=bc hb9 x1;replace x2:=bc hb9 x2;replace x3:=bc hb9 x3;replace x4:=bc hb9 x4;clear hb9))
  go_ret
  exact ⟨Af (by rw [← HV.out,eOk,HVd.out];simp),bj HB1.out HX.out⟩
 ·have HVd:=As hvd
  clear hvd
  cases hvm : Et e.mem
  ·have HVm:=As hvm
   clear hvm
   go_enter Tryz.func24,Tryz.ntmps24
   go_wp2_with (first | (go_at_call 51;rw [HW1.out];refine (CP (c:=cd) HVd.out (bj HB1.out HX.out) HR.out.d).mono ?_;rintro x w9 ⟨rfl,hb9⟩;have HX:=As (bj HX.out hb9);replace x0:=bc hb9 x0;replace x1:=bc hb9 x1;replace x2:=bc hb9 x2;replace x3:=bc hb9 x3;replace x4:=bc hb9 x4;clear hb9) | (go_at_call 51;refine (CP (c:=cm) HVm.out (bj HB1.out HX.out) HR.out.m).mono ?_;rintro x w9 ⟨rfl,hb9⟩;have HX:=As (bj HX.out hb9);replace x0:=bc hb9 x0;replace x1:=bc hb9 x1;replace x2:=bc hb9 x2;replace x3:=bc hb9 x3;replace x4:=bc hb9 x4;clear hb9))
   go_ret
   exact ⟨Af (by rw [← HV.out,eOk,HVd.out,HVm.out];simp),bj HB1.out HX.out⟩
  ·have HVm:=As hvm
   clear hvm
   cases hvl : Au e.log
   ·have HVl:=As hvl
    clear hvl
    go_enter Tryz.func24,Tryz.ntmps24
    go_wp2_with (first | (go_at_call 51;rw [HW1.out];refine (CP (c:=cd) HVd.out (bj HB1.out HX.out) HR.out.d).mono ?_;rintro x w9 ⟨rfl,hb9⟩;have HX:=As (bj HX.out hb9);replace x0:=bc hb9 x0;replace x1:=bc hb9 x1;replace x2:=bc hb9 x2;replace x3:=bc hb9 x3;replace x4:=bc hb9 x4;clear hb9) | (go_at_call 51;refine (CP (c:=cm) HVm.out (bj HB1.out HX.out) HR.out.m).mono ?_;rintro x w9 ⟨rfl,hb9⟩;have HX:=As (bj HX.out hb9);replace x0:=bc hb9 x0;replace x1:=bc hb9 x1;replace x2:=bc hb9 x2;replace x3:=bc hb9 x3;replace x4:=bc hb9 x4;clear hb9) | (go_at_call 52;refine (GJ (c:=cl) (Below.refl _ _) (BF HR.out.l (bj HB1.out HX.out)) hcl).mono ?_;rintro x w9 ⟨rfl,hb9⟩;rw [HVl.out];have HX:=As (bj HX.out hb9);replace x0:=bc hb9 x0;replace x1:=bc hb9 x1;replace x2:=bc hb9 x2;replace x3:=bc hb9 x3;replace x4:=bc hb9 x4;clear hb9))
    go_ret
    exact ⟨Af (by rw [← HV.out,eOk,HVd.out,HVm.out,HVl.out];simp),bj HB1.out HX.out⟩
   ·have HVl:=As hvl
    clear hvl
    have hm150:=BA HVl.out
    cases hvs : inB e.safe 0 e.log.length
    ·have HVs:=As hvs
     clear hvs
     go_enter Tryz.func24,Tryz.ntmps24
     go_wp2_with (first | (go_at_call 51;rw [HW1.out];refine (CP (c:=cd) HVd.out (bj HB1.out HX.out) HR.out.d).mono ?_;rintro x w9 ⟨rfl,hb9⟩;have HX:=As (bj HX.out hb9);replace x0:=bc hb9 x0;replace x1:=bc hb9 x1;replace x2:=bc hb9 x2;replace x3:=bc hb9 x3;replace x4:=bc hb9 x4;clear hb9) | (go_at_call 51;refine (CP (c:=cm) HVm.out (bj HB1.out HX.out) HR.out.m).mono ?_;rintro x w9 ⟨rfl,hb9⟩;have HX:=As (bj HX.out hb9);replace x0:=bc hb9 x0;replace x1:=bc hb9 x1;replace x2:=bc hb9 x2;replace x3:=bc hb9 x3;replace x4:=bc hb9 x4;clear hb9) | (go_at_call 52;refine (GJ (c:=cl) (Below.refl _ _) (BF HR.out.l (bj HB1.out HX.out)) hcl).mono ?_;rintro x w9 ⟨rfl,hb9⟩;rw [HVl.out];have HX:=As (bj HX.out hb9);replace x0:=bc hb9 x0;replace x1:=bc hb9 x1;replace x2:=bc hb9 x2;replace x3:=bc hb9 x3;replace x4:=bc hb9 x4;clear hb9) | (go_at_call 53;refine (Ka HVs.out _).mono ?_;rintro x w9 ⟨rfl,rfl⟩))
     go_ret
     exact ⟨Af (by rw [← HV.out,eOk,HVd.out,HVm.out,HVl.out,HVs.out];simp),bj HB1.out HX.out⟩
    ·have HVs:=As hvs
     clear hvs
     have HS01:=As (CU.1 HVs.out)
     have HGR:=As (I9 (AZ HVd.out) (fun k hk => (Ag HVl.out hk).ok) e.log.length (Nat.le_refl _))
     obtain ⟨nd,hnd⟩ : ∃ nd,need e.log = nd:=⟨_,rfl⟩
     have hnd453:=Jk hm150
     rw [hnd] at hnd453
     have HND:=As hnd
     clear hnd
     go_enter Tryz.func24,Tryz.ntmps24
     go_wp2_with (first | (go_at_call 51;rw [HW1.out];refine (CP (c:=cd) HVd.out (bj HB1.out HX.out) HR.out.d).mono ?_;rintro x w9 ⟨rfl,hb9⟩;have HX:=As (bj HX.out hb9);replace x0:=bc hb9 x0;replace x1:=bc hb9 x1;replace x2:=bc hb9 x2;replace x3:=bc hb9 x3;replace x4:=bc hb9 x4;clear hb9) | (go_at_call 51;refine (CP (c:=cm) HVm.out (bj HB1.out HX.out) HR.out.m).mono ?_;rintro x w9 ⟨rfl,hb9⟩;have HX:=As (bj HX.out hb9);replace x0:=bc hb9 x0;replace x1:=bc hb9 x1;replace x2:=bc hb9 x2;replace x3:=bc hb9 x3;replace x4:=bc hb9 x4;clear hb9) | (go_at_call 52;refine (GJ (c:=cl) (Below.refl _ _) (BF HR.out.l (bj HB1.out HX.out)) hcl).mono ?_;rintro x w9 ⟨rfl,hb9⟩;rw [HVl.out];have HX:=As (bj HX.out hb9);replace x0:=bc hb9 x0;replace x1:=bc hb9 x1;replace x2:=bc hb9 x2;replace x3:=bc hb9 x3;replace x4:=bc hb9 x4;clear hb9) | (go_at_call 53;refine (Ka HVs.out _).mono ?_;rintro x w9 ⟨rfl,rfl⟩) | (go_at_call 54;refine (Gp (c:=cd) (d:=cl) (AZ HVd.out) (fun k hk => (Ag HVl.out hk).ok) hm150 (bj HB1.out HX.out) HR.out.d HR.out.l).mono ?_;rintro x w9 ⟨u,rfl,hO,hb9⟩;obtain ⟨g,cap,rfl,hgb,hgl⟩:=D9 hO (by rw [HGR.out.1];omega);rw [HGR.out.1] at hO ⊢;have HO:=As hO;have HGB:=As (And.intro hgb hgl);clear hO hgb hgl;have HX:=As (bj HX.out hb9);replace x0:=bc hb9 x0;replace x1:=bc hb9 x1;replace x2:=bc hb9 x2;replace x3:=bc hb9 x3;replace x4:=bc hb9 x4;clear hb9))
     obtain ⟨R,hRR⟩ : ∃ R,BI e.disk e.log e.log.length = R:=⟨_,rfl⟩
     rw [hRR] at HO HGR
     have HRR:=As hRR
     clear hRR
     have hwr : IntKind.i64.wrap ((e.log.length : Int) + nd) = (e.log.length : Int) + nd:=by simp (disch:=omega) only [IntWalk.i64_in]
     rcases lts 150 ((e.log.length : Int) + nd) with ⟨ef,f1,f2⟩ | ⟨ef,f1,f2⟩
     ·refine Aq (fun w' => Below w9.heap.size w9 w') rfl rfl (by kernel_rfl) (Ac (Below.refl _ _)) (fun HT => ?_)
      repeat (first
       | (refine AQ (fun wx hS => ?_))
       | ((with_reducible refine Ay (f:=55) rfl ?_);refine Az (v:=.int .i64 nd) (args:=#[.slice Al e.log.length cl]) HT rfl Tryz.func55 (by kernel_rfl) rfl rfl (by rfl) (fun _ _ _ h => h) (by simp only [List.map_toArray,List.map_cons,List.map_nil];rfl) (fun wx hS => (HND.out ▸ Gq (w0:=w9) hS (BF HR.out.l (bj HB1.out HX.out)) HVl.out : Calls Tryz.prog 55 #[.slice Al e.log.length cl] wx fun e w' => e = .returned (.int .i64 nd) ∧ Below w9.heap.size w9 w')) ?_;simp only [sc0,sc1])
       | (refine AB HT rfl (by rfl) (fun _ _ _ h => h) ?_;simp only [sc0,sc1])
       | (refine AP (v:=?_) HT rfl (by rfl) (fun _ _ _ h => h) (fun wx hS => ?_) ?_;rotate_left;(replace x2:=bc hS x2;go_simp;with_reducible rfl);rotate_left;simp only [sc0,sc1]))
      have HX:=As (bj HX.out hS)
      replace HO:=As (Kd.Bg HO.out hS)
      replace x0:=bc hS x0;replace x1:=bc hS x1;replace x2:=bc hS x2;replace x3:=bc hS x3;replace x4:=bc hS x4
      clear hS
      go_wp2
      go_ret
      exact ⟨Af (by rw [← HV.out,eOk,HVd.out,HVm.out,HVl.out,HVs.out,G6,HND.out,decide_eq_false (by have:=ef.out;omega)];simp),bj HB1.out HX.out⟩
     refine Aq (fun w' => Below w9.heap.size w9 w') rfl rfl (by kernel_rfl) (Ac (Below.refl _ _)) (fun HT => ?_)
     repeat (first
      | (refine AQ (fun wx hS => ?_))
      | ((with_reducible refine Ay (f:=55) rfl ?_);refine Az (v:=.int .i64 nd) (args:=#[.slice Al e.log.length cl]) HT rfl Tryz.func55 (by kernel_rfl) rfl rfl (by rfl) (fun _ _ _ h => h) (by simp only [List.map_toArray,List.map_cons,List.map_nil];rfl) (fun wx hS => (HND.out ▸ Gq (w0:=w9) hS (BF HR.out.l (bj HB1.out HX.out)) HVl.out : Calls Tryz.prog 55 #[.slice Al e.log.length cl] wx fun e w' => e = .returned (.int .i64 nd) ∧ Below w9.heap.size w9 w')) ?_;simp only [sc0,sc1])
      | (refine AB HT rfl (by rfl) (fun _ _ _ h => h) ?_;simp only [sc0,sc1])
      | (refine AP (v:=?_) HT rfl (by rfl) (fun _ _ _ h => h) (fun wx hS => ?_) ?_;rotate_left;(replace x2:=bc hS x2;go_simp;with_reducible rfl);rotate_left;simp only [sc0,sc1]))
     have HX:=As (bj HX.out hS)
     replace HO:=As (Kd.Bg HO.out hS)
     replace x0:=bc hS x0;replace x1:=bc hS x1;replace x2:=bc hS x2;replace x3:=bc hS x3;replace x4:=bc hS x4
     clear hS
     have HVf:=As (show G6 e.log = true by rw [G6,HND.out,decide_eq_true_eq];have:=ef.out;omega)
     obtain ⟨s,hs⟩ : ∃ s : Nat,e.safe = s:=⟨e.safe.toNat,by have:=HS01.out;omega⟩
     have HS:=As hs
     have hs2 : s ≤ e.log.length:=by have:=HS01.out;omega
     clear hs
     obtain ⟨pv,hpv⟩ : ∃ pv,Fs e (e.log.length + 1 - e.safe.toNat) e.safe.toNat = pv:=⟨_,rfl⟩
     have HPV:=As hpv
     clear hpv
     go_wp2
     clear f1 f2 ef
     go_loopw [4] (fun i wr => ∃ n : Nat,s ≤ n ∧ n ≤ e.log.length + 1 ∧ i = .int .i64 (n : Int) ∧ A7 (Fs e (e.log.length + 1 - n) n = pv) ∧ A7 (Below wx.heap.size wx wr)) (fun i _ => (e.log.length + 1 - intOf i).toNat)
     case atStart => exact ⟨s,Nat.le_refl _,by omega,by rw [HS.out],⟨by have:=HPV.out;rw [HS.out] at this;exact this⟩,⟨Below.refl _ _⟩⟩
     case round => as_aux_lemma =>
      obtain ⟨n,hn1,hn2,rfl,HK,HW⟩:=hrel
      have HWW:=As (bj HB1.out (bj HX.out HW.out))
      replace x0:=bc HW.out x0;replace x1:=bc HW.out x1;replace x2:=bc HW.out x2;replace x3:=bc HW.out x3;replace x4:=bc HW.out x4
      by_cases hlt : n ≤ e.log.length
      ·have hl : (e.log.take n).length = n:=by rw [List.length_take];omega
       obtain ⟨ps,hps⟩ : ∃ ps,BI e.disk (e.log.take n) (e.log.take n).length = ps:=⟨_,rfl⟩
       obtain ⟨ok,hok⟩ : ∃ ok,Et ps = ok:=⟨_,rfl⟩
       have hgeo : geo ps:=by rw [← hps];exact I9 (AZ HVd.out) (MN HVl.out n) _ (Nat.le_refl _)
       have HGP:=As hgeo
       have HPS:=As (And.intro hps hok)
       have hcall : ∀ w2,Below wr.heap.size wr w2 → Calls Tryz.prog 54 #[.slice Ad e.disk.length cd, .slice Al n cl] w2 (NQ w2 ps):=fun w2 hb => by
        have h:=Gp (c:=cd) (d:=cl) (AZ HVd.out) (MN HVl.out n) (by omega) hb (BF HR.out.d HWW.out) (KD (BF HR.out.l HWW.out) hlt)
        rw [hps,hl] at h
        exact h
       have HLn:=As hl
       have hncl : n ≤ cl:=Nat.le_trans hlt hcl
       clear hps hok hl hgeo
       go_wp2
       refine Bo (fun lx a w2 => Below wr.heap.size wr w2 ∧ Sl 6 62 (fun v w2 => F3 w2 wr.heap.size v ps) lx a w2) 8 rfl (by kernel_rfl) (⟨Ac (Below.refl _ _),Bp⟩) (fun HT => ?_)
       refine Bw [0,1,2,3,4,5] ?_
       iterate 6 (refine Bq (v:=?_) HT rfl (by kernel_rfl) rfl (kA Ah (Ak rfl rfl)) (by rfl) (fun _ _ _ h => h) (fun lx ax wx hS => ?_) ?_;rotate_left;(have hbx:=hS.1;clear hS;replace x0:=bc hbx x0;replace x2:=bc hbx x2;go_simp;with_reducible rfl);rotate_left;simp only [sc0,sc1])
       refine Bv ?_
       refine Cr (i:=6) (f:=54) (args:=#[.slice Ad e.disk.length cd, .slice Al n cl]) (fun v => True) rfl (by kernel_rfl) rfl Tryz.func54 (by kernel_rfl) rfl rfl (by rfl) (by simp only [List.map_toArray,List.map_cons,List.map_nil];rfl) (fun wx hS => (hcall wx hS.1).mono (by rintro e w6 ⟨u,rfl,ho,hb⟩;exact ⟨_,rfl,trivial,bj hS.1 hb,fun _ => Kd.Eb ho hS.1.size⟩)) (fun vx hg => ?_);simp only [sc0,sc1]
       rename_i u;clear hg
       refine CZ (i:=7) (v:=?_) HT rfl (by kernel_rfl) rfl (kA Ah (Ak rfl rfl)) (by rfl) (fun _ _ _ h => h) (fun lx ax wx hS => ?_) ?_;rotate_left;(go_simp;with_reducible rfl);rotate_left;simp only [sc0,sc1]
       refine GU (by kernel_rfl) (fun w2 hS => ?_)
       obtain ⟨h1,h2⟩:=hS
       have hown : F3 w2 wr.heap.size vx ps:=h2 (by kernel_rfl)
       obtain ⟨g2,cap2,rfl,hgb,hgl⟩:=D9 hown (by rw [HGP.out.1];omega)
       have HO2:=As (Kd.S_R hown)
       have HX2:=As h1
       rw [HGP.out.1] at HO2 ⊢
       replace x0:=bc h1 x0;replace x1:=bc h1 x1;replace x2:=bc h1 x2;replace x3:=bc h1 x3;replace x4:=bc h1 x4
       clear h1 h2 hown hcall hgb hgl
       have HP:=As (show Fs e (e.log.length + 1 - n) n = (Ez e n && Fs e (e.log.length + 1 - (n + 1)) (n + 1)) by rw [show e.log.length + 1 - n = (e.log.length + 1 - (n + 1)) + 1 by omega,Fs])
       cases ok
       ·go_wp2_with (go_at_call 51;refine (OA HGP.out.1 HPS.out.2 (Below.refl _ _) (Kd.Df HO2.out).2.2).mono ?_;rintro x w7 ⟨rfl,hb7⟩;have HB7:=As (bj HX2.out hb7);clear hb7)
        go_ret
        exact ⟨Af (by rw [← HV.out,eOk,HVd.out,HVm.out,HVl.out,HVs.out,HVf.out,HPV.out, ← HK.out,HP.out,Ez,HPS.out.1,HPS.out.2];simp),bj HWW.out HB7.out⟩
       ·obtain ⟨ub,hub⟩ : ∃ ub,DR (e.log.take n) ps = ub:=⟨_,rfl⟩
        have hcall2 : ∀ w8,Below w2.heap.size w2 w8 → Calls Tryz.prog 56 #[.slice (some ⟨g2,0,none⟩) 5 cap2, .slice Al n cl] w8 fun x w' => x = .returned (.bool ub) ∧ Below wr.heap.size wr w':=fun w8 hb8 => by
         have h:=MK (d:=cl) hub HGP.out (Fv HVl.out n) (Kd.C8 HO2.out hb8) (bj HX2.out hb8) (KD (BF HR.out.l HWW.out) hlt)
         rw [HLn.out] at h
         exact h
        have HUB:=As hub
        clear hub
        cases ub
        all_goals
         go_wp2_with (first | (go_at_call 51;refine (OA HGP.out.1 HPS.out.2 (Below.refl _ _) (Kd.Df HO2.out).2.2).mono ?_;rintro x w7 ⟨rfl,hb7⟩;have HB7:=As hb7;replace x0:=bc hb7 x0;replace x1:=bc hb7 x1;replace x2:=bc hb7 x2;replace x3:=bc hb7 x3;replace x4:=bc hb7 x4;clear hb7) | (go_at_call 56;refine (hcall2 _ HB7.out).mono ?_;rintro x w8 ⟨rfl,hb8⟩;have HB8:=As hb8;clear hb8))
        ·go_ret
         exact ⟨Af (by rw [← HV.out,eOk,HVd.out,HVm.out,HVl.out,HVs.out,HVf.out,HPV.out, ← HK.out,HP.out,Ez,HPS.out.1,HPS.out.2,HUB.out];simp),bj HWW.out HB8.out⟩
        ·go_roundw
         case rel => exact ⟨n + 1,by omega,by omega,by go_num,⟨by rw [← HK.out,HP.out,Ez,HPS.out.1,HPS.out.2,HUB.out];rfl⟩,⟨bj HW.out HB8.out⟩⟩
         case measure => simp [intOf];omega
      ·have HPT:=As (show pv = true by rw [← HK.out,show e.log.length + 1 - n = 0 by omega];rfl)
       have HPS:=As (show Et R = true by
        have h:=HPV.out
        rw [HPT.out,Jh] at h
        have h2:=h e.log.length (by have:=HS01.out;omega) (by have:=HS01.out;omega)
        rw [Ez,List.take_length,Bool.and_eq_true,HRR.out] at h2
        exact h2.1)
       have HP5:=As (show MI e 5 0 = b by rw [← HV.out,eOk,HVd.out,HVm.out,HVl.out,HVs.out,HVf.out,HPV.out,HPT.out, ← Qe];simp)
       go_wp2
       replace HO:=As (Kd.Bg HO.out HW.out)
       obtain ⟨w5,rfl⟩ : ∃ w5,w5 = wr:=⟨_,rfl⟩
       go_loopw [6] (fun i wr => ∃ k : Nat,k ≤ 5 ∧ i = .int .i64 (k : Int) ∧ A7 (MI e (5 - k) k = b) ∧ A7 (Below w5.heap.size w5 wr)) (fun i _ => (5 - intOf i).toNat)
       case atStart => exact ⟨0,by omega,rfl,HP5,⟨Below.refl _ _⟩⟩
       case round => as_aux_lemma =>
        obtain ⟨k,hk,rfl,HK2,HW2⟩:=hrel
        have HWQ:=As (bj HWW.out HW2.out)
        have y0:=bc HW2.out x0
        have y1:=bc HW2.out x1
        have y2:=bc HW2.out x2
        have y3:=bc HW2.out x3
        have y4:=bc HW2.out x4
        clear x0 x1 x2 x3 x4
        by_cases hlt : k < 5
        ·have hd5:=Bb.1 HVd.out
         have hm5:=Bb.1 HVm.out
         have hr5:=Bb.1 HPS.out
         have hpd : k < e.disk.length:=by omega
         have hpm : k < e.mem.length:=by omega
         obtain ⟨adm,Am2,cm2,rfl,QM, -,hmC⟩:=DT HR.out.m k hpm
         obtain ⟨add,Ad2,cd2,rfl,QD, -,hdC⟩:=DT HR.out.d k hpd
         obtain ⟨M,hM⟩ : ∃ M,pg e.mem k = M:=⟨_,rfl⟩
         obtain ⟨Dp,hD⟩ : ∃ Dp,pg e.disk k = Dp:=⟨_,rfl⟩
         obtain ⟨q,hq⟩ : ∃ q,pg R k = q:=⟨_,rfl⟩
         obtain ⟨m0,m1,m2⟩:=QM.up HWQ.out
         obtain ⟨d0,d1,d2⟩:=QD.up HWQ.out
         obtain ⟨A3,c3,q0,q1,q2,qC, -⟩:=F4 (Kd.Bg HO.out HW2.out) k hlt
         have hoks:=And.intro (hm5.2 k hlt) (And.intro (hd5.2 k hlt) (hr5.2 k hlt))
         have hqd : (pg e.disk k).lsn ≤ (pg R k).lsn:=by
          rw [← HRR.out,E9 hd5.1 (fun k hk => (Ag HVl.out hk).ok) k _ (Nat.le_refl _)]
          exact (He _).1
         rw [hM] at m0 m1 m2 hmC hoks
         rw [hD] at d0 d1 d2 hdC hoks hqd
         rw [hq] at q0 q1 q2 qC hoks hqd
         have HOKs:=As hoks
         have HQD:=As hqd
         have HMD:=As (And.intro hM hD)
         have HMC:=As hmC
         have HDC:=As hdC
         have HQC:=As qC
         have HQQ:=As hq
         have HPG:=As (show MI e (5 - k) k = (E5 e k && MI e (5 - (k + 1)) (k + 1)) by rw [show 5 - k = (5 - (k + 1)) + 1 by omega,MI])
         have HPB:=As (show E5 e k = (decide (Dq e.log k 3 ≤ 1) && decide (Dp.lsn ≤ e.safe) && (if e.down = true then D8 M Dp else Kn e k)) by rw [E5,Ub,hM,hD])
         obtain ⟨dn,hdn⟩ : ∃ dn,e.down = dn:=⟨_,rfl⟩
         rw [hdn] at y4
         have HDN:=As hdn
         clear hM hD hq hmC hdC QM QD hdn qC hoks hqd hd5 hm5 hr5
         rcases lts e.safe Dp.lsn with ⟨e3,k1,k2⟩ | ⟨e3,k1,k2⟩
         ·go_wp2
          refine Aq (fun w' => Below wr.heap.size wr w') rfl rfl (by kernel_rfl) (Ac (Below.refl _ _)) (fun HT => ?_)
          repeat (first
           | (refine AQ (fun wx hS => ?_))
           | (refine AB HT rfl (by rfl) (fun _ _ _ h => h) ?_;simp only [sc0,sc1])
           | (refine AP (v:=?_) HT rfl (by rfl) (fun _ _ _ h => h) (fun wx hS => ?_) ?_;rotate_left;(replace y0:=bc hS y0;replace y3:=bc hS y3;replace d0:=bc hS d0;go_simp;with_reducible rfl);rotate_left;simp only [sc0,sc1]))
          go_wp2
          go_ret
          exact ⟨Af (by rw [← HK2.out,HPG.out,HPB.out,k2];simp),bj HWQ.out hS⟩
         ·have HPC:=As (show E5 e k = (decide (Dq e.log k 3 ≤ 1) && (if e.down = true then D8 M Dp else Kn e k)) by rw [HPB.out,k2];simp)
          cases dn
          ·as_aux_lemma =>
            obtain ⟨ldb,hld⟩ : ∃ ldb,FR e.log k 3 = ldb:=⟨_,rfl⟩
            have HLD:=As hld
            have HPD:=As (show E5 e k = (decide (Dq e.log k 3 ≤ 1) && Kn e k) by rw [HPC.out,if_neg (by rw [HDN.out];simp)])
            clear hld
            cases ldb
            ·as_aux_lemma =>
              obtain ⟨s2,hs2⟩ : ∃ s2,D8 M q = s2:=⟨_,rfl⟩
              have HS2:=As hs2
              have HPE:=As (show Kn e k = s2 by rw [Kn,HLD.out,HRR.out,HMD.out.1,HQQ.out,hs2];simp)
              clear hs2
              go_wp2
              refine Aq (fun w' => Below wr.heap.size wr w') rfl rfl (by kernel_rfl) (Ac (Below.refl _ _)) (fun HT => ?_)
              repeat (first
               | (refine AQ (fun wx hS => ?_))
               | ((with_reducible refine Ay (f:=58) rfl ?_);refine Az (v:=.bool false) (args:=#[.slice Al e.log.length cl, .int .i64 k]) HT rfl Tryz.func58 (by kernel_rfl) rfl rfl (by rfl) (fun _ _ _ h => h) (by simp only [List.map_toArray,List.map_cons,List.map_nil];rfl) (fun wx hS => (Ef (c:=cl) HLD.out (bj HWQ.out hS) HR.out.l HVl.out).mono fun _ _ h => ⟨h.1,h.2 ▸ hS⟩) ?_;simp only [sc0,sc1])
               | ((with_reducible refine Ay (f:=57) rfl ?_);refine Az (v:=.bool s2) (args:=#[M.val Am2 cm2,q.val A3 c3]) HT rfl Tryz.func57 (by kernel_rfl) rfl rfl (by rfl) (fun _ _ _ h => h) (by simp only [List.map_toArray,List.map_cons,List.map_nil];rfl) (fun wx hS => (Gn (w0:=wr) (c:=cm2) (d:=c3) HS2.out HOKs.out.1 HOKs.out.2.2 hS (BF HMC.out HWQ.out) HQC.out).mono fun _ _ h => ⟨h.1,bj hS h.2⟩) ?_;simp only [sc0,sc1])
               | (refine AB HT rfl (by rfl) (fun _ _ _ h => h) ?_;simp only [sc0,sc1])
               | (refine AP (v:=?_) HT rfl (by rfl) (fun _ _ _ h => h) (fun wx hS => ?_) ?_;rotate_left;(replace y0:=bc hS y0;replace y1:=bc hS y1;replace y2:=bc hS y2;replace y3:=bc hS y3;replace y4:=bc hS y4;replace m0:=bc hS m0;replace m1:=bc hS m1;replace m2:=bc hS m2;replace d0:=bc hS d0;replace q0:=bc hS q0;replace q1:=bc hS q1;replace q2:=bc hS q2;go_simp;with_reducible rfl);rotate_left;simp only [sc0,sc1]))
              cases s2
              ·go_wp2
               go_ret
               exact ⟨Af (by rw [← HK2.out,HPG.out,HPD.out,HPE.out];simp),bj HWQ.out hS⟩
              ·have hmq:=DF.1 HS2.out
               have HPX:=As (show E5 e k = decide (Dq e.log k 3 ≤ 1) by rw [HPD.out,HPE.out];simp)
               rcases lts M.lsn Dp.lsn with ⟨e5,g1,g2⟩ | ⟨e5,g1,g2⟩
               ·exact absurd e5.out (by have:=HQD.out;rw [hmq];omega)
               rcases BS M.owner q.owner with ⟨e6,b1,c1⟩ | ⟨e6,b1,c1⟩
               rotate_left
               ·exact absurd (by rw [hmq]) e6.out
               clear hmq
               have HX5:=As hS
               replace y0:=bc hS y0;replace y1:=bc hS y1;replace y2:=bc hS y2;replace y3:=bc hS y3;replace y4:=bc hS y4;replace m0:=bc hS m0;replace m1:=bc hS m1;replace m2:=bc hS m2;replace d0:=bc hS d0;replace d1:=bc hS d1;replace d2:=bc hS d2;replace q0:=bc hS q0;replace q1:=bc hS q1;replace q2:=bc hS q2
               clear hS
               go_wp2
               refine Aq (fun w' => Below wx.heap.size wx w') rfl rfl (by kernel_rfl) (Ac (Below.refl _ _)) (fun HT => ?_)
               repeat (first
                | (refine AQ (fun wx hS => ?_))
                | ((with_reducible refine Ay (f:=58) rfl ?_);refine Az (v:=.bool false) (args:=#[.slice Al e.log.length cl, .int .i64 k]) HT rfl Tryz.func58 (by kernel_rfl) rfl rfl (by rfl) (fun _ _ _ h => h) (by simp only [List.map_toArray,List.map_cons,List.map_nil];rfl) (fun wx hS => (Ef (c:=cl) HLD.out (bj HWQ.out (bj HX5.out hS)) HR.out.l HVl.out).mono fun _ _ h => ⟨h.1,h.2 ▸ hS⟩) ?_;simp only [sc0,sc1])
                | (refine AB HT rfl (by rfl) (fun _ _ _ h => h) ?_;simp only [sc0,sc1])
                | (refine AP (v:=?_) HT rfl (by rfl) (fun _ _ _ h => h) (fun wx hS => ?_) ?_;rotate_left;(replace y0:=bc hS y0;replace y1:=bc hS y1;replace y2:=bc hS y2;replace y4:=bc hS y4;replace m0:=bc hS m0;replace m1:=bc hS m1;replace d0:=bc hS d0;replace q1:=bc hS q1;go_simp;with_reducible rfl);rotate_left;simp only [sc0,sc1]))
               have HX6:=As (bj HX5.out hS)
               replace y2:=bc hS y2
               clear hS
               go_wp2
               try rw [decide_eq_true (show (k : Int) < 5 by omega)]
               try rw [Bool.not_true]
               try rw [c1]
               go_loop [7,8] (fun h t => ∃ (j c : Nat),j ≤ 3 ∧ t = .int .i64 (4 - j : Int) ∧ h = .int .i64 (c : Int) ∧ c + j ≤ 3 ∧ A7 (c + Dq e.log k j = Dq e.log k 3)) (fun _ t => (4 - intOf t).toNat)
               case atStart => exact ⟨3,0,by omega,rfl,rfl,by omega,⟨by simp⟩⟩
               case round => as_aux_lemma =>
                obtain ⟨j,c,hj,rfl,rfl,hc,HH⟩:=hrel
                rcases j with _ | j
                ·rcases lts 1 (c : Int) with ⟨e7,g1,g2⟩ | ⟨e7,g1,g2⟩
                 ·go_wp2
                  go_ret
                  exact ⟨Af (by rw [← HK2.out,HPG.out,HPX.out,decide_eq_false (by have:=HH.out;have:=e7.out;simp only [Dq] at *;omega)];rfl),bj HWQ.out HX6.out⟩
                 ·go_wp2
                  go_roundw
                  case rel => exact ⟨k + 1,by omega,by go_num,⟨by rw [← HK2.out,HPG.out,HPX.out,decide_eq_true (by have:=HH.out;have:=e7.out;simp only [Dq] at *;omega)];rfl⟩,⟨bj HW2.out HX6.out⟩⟩
                  case measure => simp [intOf];omega
                ·have hw : (4 - ((j + 1 : Nat) : Int)) = 3 - (j : Int):=by omega
                 rw [hw]
                 have h1 : (3 - (j : Int)) ≤ 3:=by omega
                 have h2 : 1 ≤ (3 - (j : Int)):=by omega
                 clear hw
                 obtain ⟨hb,hhb⟩ : ∃ hb,Fy e.log (Ae e.log (3 - (j : Int)) e.log.length) k = hb:=⟨_,rfl⟩
                 have HHB:=As hhb
                 clear hhb
                 cases hb
                 ·go_wp2_with (go_at_call 60;refine (EI (c:=cl) HHB.out (bj HWQ.out HX6.out) HR.out.l HVl.out).mono ?_;rintro x w7 ⟨rfl,rfl⟩)
                  go_round
                  case rel => exact ⟨j,c,by omega,by go_num,rfl,by omega,⟨by rw [← HH.out,Dq,HHB.out];simp⟩⟩
                  case measure => simp [intOf];omega
                 ·go_wp2_with (go_at_call 60;refine (EI (c:=cl) HHB.out (bj HWQ.out HX6.out) HR.out.l HVl.out).mono ?_;rintro x w7 ⟨rfl,rfl⟩)
                  go_round
                  case rel => exact ⟨j,c + 1,by omega,by go_num,by go_num,by omega,⟨by rw [← HH.out,Dq,HHB.out];simp;omega⟩⟩
                  case measure => simp [intOf];omega
            ·as_aux_lemma =>
              obtain ⟨fr,hfr⟩ : ∃ fr,Ma e k = fr:=⟨_,rfl⟩
              have HFR:=As hfr
              have HPE:=As (show Kn e k = (M.owner == q.owner && fr) by rw [Kn,if_pos HLD.out,HRR.out,HQQ.out, ← hfr,Ma,HMD.out.1,HMD.out.2,Bool.and_assoc])
              have hcall : ∀ w' : World,Below wr.heap.size wr w' → Calls Tryz.prog 59 #[.agg #[.slice (some add) e.disk.length cd, .slice (some adm) e.mem.length cm, .slice Al e.log.length cl, .int .i64 e.safe, .bool false], .int .i64 k] w' fun x w2 => x = .returned (.bool fr) ∧ Below w'.heap.size w' w2:=fun w' hb => by
               have h:=Ny (w0:=wr) (cd:=cd) (cm:=cm) (cl:=cl) HFR.out hlt HVd.out HVm.out hb (HR.out.up HWQ.out)
               unfold Eng.val Eng.ag at h
               rw [HDN.out] at h
               exact h
              clear hfr
              go_wp2
              refine Aq (fun w' => Below wr.heap.size wr w') rfl rfl (by kernel_rfl) (Ac (Below.refl _ _)) (fun HT => ?_)
              repeat (first
               | (refine AQ (fun wx hS => ?_))
               | ((with_reducible refine Ay (f:=58) rfl ?_);refine Az (v:=.bool true) (args:=#[.slice Al e.log.length cl, .int .i64 k]) HT rfl Tryz.func58 (by kernel_rfl) rfl rfl (by rfl) (fun _ _ _ h => h) (by simp only [List.map_toArray,List.map_cons,List.map_nil];rfl) (fun wx hS => (Ef (c:=cl) HLD.out (bj HWQ.out hS) HR.out.l HVl.out).mono fun _ _ h => ⟨h.1,h.2 ▸ hS⟩) ?_;simp only [sc0,sc1])
               | (refine AB HT rfl (by rfl) (fun _ _ _ h => h) ?_;simp only [sc0,sc1])
               | (refine AP (v:=?_) HT rfl (by rfl) (fun _ _ _ h => h) (fun wx hS => ?_) ?_;rotate_left;(replace y0:=bc hS y0;replace y2:=bc hS y2;replace y3:=bc hS y3;replace y4:=bc hS y4;replace d0:=bc hS d0;go_simp;with_reducible rfl);rotate_left;simp only [sc0,sc1]))
              have HX5:=As hS
              replace y0:=bc hS y0;replace y1:=bc hS y1;replace y2:=bc hS y2;replace y3:=bc hS y3;replace y4:=bc hS y4;replace m0:=bc hS m0;replace m1:=bc hS m1;replace m2:=bc hS m2;replace d0:=bc hS d0;replace d1:=bc hS d1;replace d2:=bc hS d2;replace q0:=bc hS q0;replace q1:=bc hS q1;replace q2:=bc hS q2
              clear hS
              go_wp2
              cases fr
              ·skip
               refine Aq (fun w' => Below wx.heap.size wx w') rfl rfl (by kernel_rfl) (Ac (Below.refl _ _)) (fun HT => ?_)
               repeat (first
                | (refine AQ (fun wx hS => ?_))
                | ((with_reducible refine Ay (f:=58) rfl ?_);refine Az (v:=.bool true) (args:=#[.slice Al e.log.length cl, .int .i64 k]) HT rfl Tryz.func58 (by kernel_rfl) rfl rfl (by rfl) (fun _ _ _ h => h) (by simp only [List.map_toArray,List.map_cons,List.map_nil];rfl) (fun wx hS => (Ef (c:=cl) HLD.out (bj HWQ.out (bj HX5.out hS)) HR.out.l HVl.out).mono fun _ _ h => ⟨h.1,h.2 ▸ hS⟩) ?_;simp only [sc0,sc1])
                | ((with_reducible refine Ay (f:=59) rfl ?_);refine Az (v:=.bool false) (args:=#[.agg #[.slice (some add) e.disk.length cd, .slice (some adm) e.mem.length cm, .slice Al e.log.length cl, .int .i64 e.safe, .bool false], .int .i64 k]) HT rfl Tryz.func59 (by kernel_rfl) rfl rfl (by rfl) (fun _ _ _ h => h) (by simp only [List.map_toArray,List.map_cons,List.map_nil];rfl) (fun wx hS => (hcall wx (bj HX5.out hS)).mono fun _ _ h => ⟨h.1,bj hS h.2⟩) ?_;simp only [sc0,sc1])
                | (refine AB HT rfl (by rfl) (fun _ _ _ h => h) ?_;simp only [sc0,sc1])
                | (refine AP (v:=?_) HT rfl (by rfl) (fun _ _ _ h => h) (fun wx hS => ?_) ?_;rotate_left;(replace y0:=bc hS y0;replace y1:=bc hS y1;replace y2:=bc hS y2;replace y3:=bc hS y3;replace y4:=bc hS y4;go_simp;with_reducible rfl);rotate_left;simp only [sc0,sc1]))
               go_wp2
               go_ret
               exact ⟨Af (by rw [← HK2.out,HPG.out,HPD.out,HPE.out];simp),bj HWQ.out (bj HX5.out hS)⟩
              ·skip
               refine Aq (fun w' => Below wx.heap.size wx w') rfl rfl (by kernel_rfl) (Ac (Below.refl _ _)) (fun HT => ?_)
               repeat (first
                | (refine AQ (fun wx hS => ?_))
                | ((with_reducible refine Ay (f:=58) rfl ?_);refine Az (v:=.bool true) (args:=#[.slice Al e.log.length cl, .int .i64 k]) HT rfl Tryz.func58 (by kernel_rfl) rfl rfl (by rfl) (fun _ _ _ h => h) (by simp only [List.map_toArray,List.map_cons,List.map_nil];rfl) (fun wx hS => (Ef (c:=cl) HLD.out (bj HWQ.out (bj HX5.out hS)) HR.out.l HVl.out).mono fun _ _ h => ⟨h.1,h.2 ▸ hS⟩) ?_;simp only [sc0,sc1])
                | ((with_reducible refine Ay (f:=59) rfl ?_);refine Az (v:=.bool true) (args:=#[.agg #[.slice (some add) e.disk.length cd, .slice (some adm) e.mem.length cm, .slice Al e.log.length cl, .int .i64 e.safe, .bool false], .int .i64 k]) HT rfl Tryz.func59 (by kernel_rfl) rfl rfl (by rfl) (fun _ _ _ h => h) (by simp only [List.map_toArray,List.map_cons,List.map_nil];rfl) (fun wx hS => (hcall wx (bj HX5.out hS)).mono fun _ _ h => ⟨h.1,bj hS h.2⟩) ?_;simp only [sc0,sc1])
                | (refine AB HT rfl (by rfl) (fun _ _ _ h => h) ?_;simp only [sc0,sc1])
                | (refine AP (v:=?_) HT rfl (by rfl) (fun _ _ _ h => h) (fun wx hS => ?_) ?_;rotate_left;(replace y0:=bc hS y0;replace y1:=bc hS y1;replace y2:=bc hS y2;replace y3:=bc hS y3;replace y4:=bc hS y4;replace m1:=bc hS m1;replace q1:=bc hS q1;go_simp;with_reducible rfl);rotate_left;simp only [sc0,sc1]))
               rcases BS M.owner q.owner with ⟨e6,b1,c1⟩ | ⟨e6,b1,c1⟩
               ·have HPX:=As (show E5 e k = decide (Dq e.log k 3 ≤ 1) by rw [HPD.out,HPE.out,b1];simp)
                have HX6:=As (bj HX5.out hS)
                replace y2:=bc hS y2
                clear hS
                go_wp2
                try rw [decide_eq_true (show (k : Int) < 5 by omega)]
                try rw [Bool.not_true]
                try rw [c1]
                go_loop [7,8] (fun h t => ∃ (j c : Nat),j ≤ 3 ∧ t = .int .i64 (4 - j : Int) ∧ h = .int .i64 (c : Int) ∧ c + j ≤ 3 ∧ A7 (c + Dq e.log k j = Dq e.log k 3)) (fun _ t => (4 - intOf t).toNat)
                case atStart => exact ⟨3,0,by omega,rfl,rfl,by omega,⟨by simp⟩⟩
                case round => as_aux_lemma =>
                 obtain ⟨j,c,hj,rfl,rfl,hc,HH⟩:=hrel
                 rcases j with _ | j
                 ·rcases lts 1 (c : Int) with ⟨e7,g1,g2⟩ | ⟨e7,g1,g2⟩
                  ·go_wp2
                   go_ret
                   exact ⟨Af (by rw [← HK2.out,HPG.out,HPX.out,decide_eq_false (by have:=HH.out;have:=e7.out;simp only [Dq] at *;omega)];rfl),bj HWQ.out HX6.out⟩
                  ·go_wp2
                   go_roundw
                   case rel => exact ⟨k + 1,by omega,by go_num,⟨by rw [← HK2.out,HPG.out,HPX.out,decide_eq_true (by have:=HH.out;have:=e7.out;simp only [Dq] at *;omega)];rfl⟩,⟨bj HW2.out HX6.out⟩⟩
                   case measure => simp [intOf];omega
                 ·have hw : (4 - ((j + 1 : Nat) : Int)) = 3 - (j : Int):=by omega
                  rw [hw]
                  have h1 : (3 - (j : Int)) ≤ 3:=by omega
                  have h2 : 1 ≤ (3 - (j : Int)):=by omega
                  clear hw
                  obtain ⟨hb,hhb⟩ : ∃ hb,Fy e.log (Ae e.log (3 - (j : Int)) e.log.length) k = hb:=⟨_,rfl⟩
                  have HHB:=As hhb
                  clear hhb
                  cases hb
                  ·go_wp2_with (go_at_call 60;refine (EI (c:=cl) HHB.out (bj HWQ.out HX6.out) HR.out.l HVl.out).mono ?_;rintro x w7 ⟨rfl,rfl⟩)
                   go_round
                   case rel => exact ⟨j,c,by omega,by go_num,rfl,by omega,⟨by rw [← HH.out,Dq,HHB.out];simp⟩⟩
                   case measure => simp [intOf];omega
                  ·go_wp2_with (go_at_call 60;refine (EI (c:=cl) HHB.out (bj HWQ.out HX6.out) HR.out.l HVl.out).mono ?_;rintro x w7 ⟨rfl,rfl⟩)
                   go_round
                   case rel => exact ⟨j,c + 1,by omega,by go_num,by go_num,by omega,⟨by rw [← HH.out,Dq,HHB.out];simp;omega⟩⟩
                   case measure => simp [intOf];omega
               ·skip
                go_wp2
                go_ret
                exact ⟨Af (by rw [← HK2.out,HPG.out,HPD.out,HPE.out,b1];simp),bj HWQ.out (bj HX5.out hS)⟩
          ·as_aux_lemma =>
            obtain ⟨s1,hs1⟩ : ∃ s1,D8 M Dp = s1:=⟨_,rfl⟩
            have HS1:=As hs1
            have HPD:=As (show E5 e k = (decide (Dq e.log k 3 ≤ 1) && s1) by rw [HPC.out,if_pos HDN.out,hs1])
            clear hs1
            cases s1
            ·go_wp2
             refine Aq (fun w' => Below wr.heap.size wr w') rfl rfl (by kernel_rfl) (Ac (Below.refl _ _)) (fun HT => ?_)
             repeat (first
              | (refine AQ (fun wx hS => ?_))
              | ((with_reducible refine Ay (f:=57) rfl ?_);refine Az (v:=.bool false) (args:=#[M.val Am2 cm2,Dp.val Ad2 cd2]) HT rfl Tryz.func57 (by kernel_rfl) rfl rfl (by rfl) (fun _ _ _ h => h) (by simp only [List.map_toArray,List.map_cons,List.map_nil];rfl) (fun wx hS => (Gn (c:=cm2) (d:=cd2) HS1.out HOKs.out.1 HOKs.out.2.1 (bj HWQ.out hS) HMC.out HDC.out).mono fun _ _ h => ⟨h.1,bj hS h.2⟩) ?_;simp only [sc0,sc1])
              | (refine AB HT rfl (by rfl) (fun _ _ _ h => h) ?_;simp only [sc0,sc1])
              | (refine AP (v:=?_) HT rfl (by rfl) (fun _ _ _ h => h) (fun wx hS => ?_) ?_;rotate_left;(replace y0:=bc hS y0;replace y1:=bc hS y1;replace y3:=bc hS y3;replace y4:=bc hS y4;replace m0:=bc hS m0;replace m1:=bc hS m1;replace m2:=bc hS m2;replace d0:=bc hS d0;replace d1:=bc hS d1;replace d2:=bc hS d2;go_simp;with_reducible rfl);rotate_left;simp only [sc0,sc1]))
             go_wp2
             go_ret
             exact ⟨Af (by rw [← HK2.out,HPG.out,HPD.out];simp),bj HWQ.out hS⟩
            ·have HPX:=As (show E5 e k = decide (Dq e.log k 3 ≤ 1) by rw [HPD.out];simp)
             go_wp2
             refine Aq (fun w' => Below wr.heap.size wr w') rfl rfl (by kernel_rfl) (Ac (Below.refl _ _)) (fun HT => ?_)
             repeat (first
              | (refine AQ (fun wx hS => ?_))
              | ((with_reducible refine Ay (f:=57) rfl ?_);refine Az (v:=.bool true) (args:=#[M.val Am2 cm2,Dp.val Ad2 cd2]) HT rfl Tryz.func57 (by kernel_rfl) rfl rfl (by rfl) (fun _ _ _ h => h) (by simp only [List.map_toArray,List.map_cons,List.map_nil];rfl) (fun wx hS => (Gn (c:=cm2) (d:=cd2) HS1.out HOKs.out.1 HOKs.out.2.1 (bj HWQ.out hS) HMC.out HDC.out).mono fun _ _ h => ⟨h.1,bj hS h.2⟩) ?_;simp only [sc0,sc1])
              | (refine AB HT rfl (by rfl) (fun _ _ _ h => h) ?_;simp only [sc0,sc1])
              | (refine AP (v:=?_) HT rfl (by rfl) (fun _ _ _ h => h) (fun wx hS => ?_) ?_;rotate_left;(replace y0:=bc hS y0;replace y1:=bc hS y1;replace y3:=bc hS y3;replace y4:=bc hS y4;replace m0:=bc hS m0;replace m1:=bc hS m1;replace m2:=bc hS m2;replace d0:=bc hS d0;replace d1:=bc hS d1;replace d2:=bc hS d2;go_simp;with_reducible rfl);rotate_left;simp only [sc0,sc1]))
             have HX5:=As hS
             replace y0:=bc hS y0;replace y1:=bc hS y1;replace y2:=bc hS y2;replace y3:=bc hS y3;replace y4:=bc hS y4;replace m0:=bc hS m0;replace m1:=bc hS m1;replace m2:=bc hS m2;replace d0:=bc hS d0;replace d1:=bc hS d1;replace d2:=bc hS d2;replace q0:=bc hS q0;replace q1:=bc hS q1;replace q2:=bc hS q2
             clear hS
             go_wp2
             refine Aq (fun w' => Below wx.heap.size wx w') rfl rfl (by kernel_rfl) (Ac (Below.refl _ _)) (fun HT => ?_)
             repeat (first
              | (refine AQ (fun wx hS => ?_))
              | (refine AB HT rfl (by rfl) (fun _ _ _ h => h) ?_;simp only [sc0,sc1])
              | (refine AP (v:=?_) HT rfl (by rfl) (fun _ _ _ h => h) (fun wx hS => ?_) ?_;rotate_left;(replace y4:=bc hS y4;go_simp;with_reducible rfl);rotate_left;simp only [sc0,sc1]))
             have HX6:=As (bj HX5.out hS)
             replace y2:=bc hS y2
             clear hS
             go_wp2
             try rw [decide_eq_true (show (k : Int) < 5 by omega)]
             try rw [Bool.not_true]
             try rw [c1]
             go_loop [7,8] (fun h t => ∃ (j c : Nat),j ≤ 3 ∧ t = .int .i64 (4 - j : Int) ∧ h = .int .i64 (c : Int) ∧ c + j ≤ 3 ∧ A7 (c + Dq e.log k j = Dq e.log k 3)) (fun _ t => (4 - intOf t).toNat)
             case atStart => exact ⟨3,0,by omega,rfl,rfl,by omega,⟨by simp⟩⟩
             case round => as_aux_lemma =>
              obtain ⟨j,c,hj,rfl,rfl,hc,HH⟩:=hrel
              rcases j with _ | j
              ·rcases lts 1 (c : Int) with ⟨e7,g1,g2⟩ | ⟨e7,g1,g2⟩
               ·go_wp2
                go_ret
                exact ⟨Af (by rw [← HK2.out,HPG.out,HPX.out,decide_eq_false (by have:=HH.out;have:=e7.out;simp only [Dq] at *;omega)];rfl),bj HWQ.out HX6.out⟩
               ·go_wp2
                go_roundw
                case rel => exact ⟨k + 1,by omega,by go_num,⟨by rw [← HK2.out,HPG.out,HPX.out,decide_eq_true (by have:=HH.out;have:=e7.out;simp only [Dq] at *;omega)];rfl⟩,⟨bj HW2.out HX6.out⟩⟩
                case measure => simp [intOf];omega
              ·have hw : (4 - ((j + 1 : Nat) : Int)) = 3 - (j : Int):=by omega
               rw [hw]
               have h1 : (3 - (j : Int)) ≤ 3:=by omega
               have h2 : 1 ≤ (3 - (j : Int)):=by omega
               clear hw
               obtain ⟨hb,hhb⟩ : ∃ hb,Fy e.log (Ae e.log (3 - (j : Int)) e.log.length) k = hb:=⟨_,rfl⟩
               have HHB:=As hhb
               clear hhb
               cases hb
               ·go_wp2_with (go_at_call 60;refine (EI (c:=cl) HHB.out (bj HWQ.out HX6.out) HR.out.l HVl.out).mono ?_;rintro x w7 ⟨rfl,rfl⟩)
                go_round
                case rel => exact ⟨j,c,by omega,by go_num,rfl,by omega,⟨by rw [← HH.out,Dq,HHB.out];simp⟩⟩
                case measure => simp [intOf];omega
               ·go_wp2_with (go_at_call 60;refine (EI (c:=cl) HHB.out (bj HWQ.out HX6.out) HR.out.l HVl.out).mono ?_;rintro x w7 ⟨rfl,rfl⟩)
                go_round
                case rel => exact ⟨j,c + 1,by omega,by go_num,by go_num,by omega,⟨by rw [← HH.out,Dq,HHB.out];simp;omega⟩⟩
                case measure => simp [intOf];omega
        ·go_wp2
         go_ret
         exact ⟨Af (by rw [← HK2.out,show 5 - k = 0 by omega];rfl),HWQ.out⟩
set_option maxRecDepth 100000 in
set_option maxHeartbeats 8000000 in
theorem Ru {w0 w : World} {e : Eng} {Ad Am Al : Option Addr} {cd cm cl : Nat} (left : Int) (hcl : e.log.length ≤ cl) (hb : Below w0.heap.size w0 w) (hr : Ff w0 e Ad Am Al) : Calls Tryz.prog 11 #[e.val Ad Am Al cd cm cl, .int .i64 left] w (OL w (Fa e left).1 (Fa e left).2):=by
 have HR:=As (hr.up hb)
 clear hr hb
 obtain ⟨w1,hw1⟩ : ∃ w1,w.alloc (e.obox (.slice Ad e.disk.length cd) (.slice Am e.mem.length cm) (.slice Al e.log.length cl)) = w1:=⟨_,rfl⟩
 obtain ⟨w2,hw2⟩ : ∃ w2,w1.alloc (zE.obox (.slice none 0 0) (.slice none 0 0) (.slice none 0 0)) = w2:=⟨_,rfl⟩
 have hz1 : w1.heap.size = w.heap.size + 1:=by rw [← hw1];exact BD _ _
 have hz2 : w2.heap.size = w.heap.size + 2:=by rw [← hw2,BD,hz1]
 have hb12 : Below w1.heap.size w1 w2:=by rw [← hw2];exact Aa (Below.refl _ _) _
 have HB2 : A7 (Below w.heap.size w w2):=⟨by rw [← hw2, ← hw1];exact Aa (Aa (Below.refl _ _) _) _⟩
 have HQ2 : A7 (Ab w2 w.heap.size e (.slice Ad e.disk.length cd) (.slice Am e.mem.length cm) (.slice Al e.log.length cl)):=⟨Ab.up (by rw [← hw1];exact Ab.mk1 _ _ _ _ _) hb12⟩
 have HP2 : A7 (Ab w2 (w.heap.size + 1) zE (.slice none 0 0) (.slice none 0 0) (.slice none 0 0)):=⟨by rw [← hw2, ← hz1];exact Ab.mk1 _ _ _ _ _⟩
 have HW2 : A7 ((w.alloc (e.obox (.slice Ad e.disk.length cd) (.slice Am e.mem.length cm) (.slice Al e.log.length cl))).alloc (zE.obox (.slice none 0 0) (.slice none 0 0) (.slice none 0 0)) = w2):=⟨by rw [hw1,hw2]⟩
 have HZ2:=As hz2
 clear hw1 hw2 hz1 hz2 hb12
 have x0:=HQ2.out.c0
 have x1:=HQ2.out.c1
 have x2:=HQ2.out.c2
 have x3:=HQ2.out.c3
 have x4:=HQ2.out.c4
 cases hv : eOk e
 ·have HV:=As hv
  have hE : Fa e left = (zE,false):=by rw [Fa,if_neg (by rw [hv];simp)]
  rw [hE]
  clear hv hE
  go_enter Tryz.func11,Tryz.ntmps11
  go_wp2_with (go_at_call 24;rw [show (w.alloc (Obj.cells #[Value.slice Ad e.disk.length cd,Value.slice Am e.mem.length cm,Value.slice Al e.log.length cl,Value.int IntKind.i64 e.safe,Value.bool e.down] 26)).alloc (Obj.cells #[Value.slice none 0 0,Value.slice none 0 0,Value.slice none 0 0,Value.int IntKind.i64 0,Value.bool false] 26) = w2 from HW2.out];refine (Cw (cd:=cd) (cm:=cm) HV.out hcl HB2.out HR.out).mono ?_;rintro x w3 ⟨rfl,hb3⟩;have HB3:=As (bj HB2.out hb3);have HP3:=As (HP2.out.up hb3);have y0:=HP3.out.c0;have y1:=HP3.out.c1;have y2:=HP3.out.c2;have y3:=HP3.out.c3;have y4:=HP3.out.c4;have f0:=HP3.out.frz 0;have f1:=HP3.out.frz 1;have f2:=HP3.out.frz 2;have f3:=HP3.out.frz 3;have f4:=HP3.out.frz 4;clear hb3)
  obtain ⟨z0,z1,z2,z3,z4⟩:=HP3.out.empty
  exact bodyPost_ret (v:=.tuple #[zEv, .bool false]) (by simp [results,Tryz.results11,go_sem,z0,z1,z2,z3,z4]) rfl ⟨_,_,_,rfl,Hz _ _,Aj (g:=w.heap.size + 1) HB3.out (by omega) zE _ _ _⟩
 ·have HV:=As hv
  have HF:=As (Ct.1 hv)
  clear hv
  rcases lts left 0 with ⟨e1,b1,c1⟩ | ⟨e1,b1,c1⟩
  ·have hE : Fa e left = (zE,false):=by rw [Fa,if_neg (by have:=e1.out;omega)]
   rw [hE]
   clear hE
   have hl0:=e1.out
   go_enter Tryz.func11,Tryz.ntmps11
   go_wp2_with (go_at_call 24;rw [show (w.alloc (Obj.cells #[Value.slice Ad e.disk.length cd,Value.slice Am e.mem.length cm,Value.slice Al e.log.length cl,Value.int IntKind.i64 e.safe,Value.bool e.down] 26)).alloc (Obj.cells #[Value.slice none 0 0,Value.slice none 0 0,Value.slice none 0 0,Value.int IntKind.i64 0,Value.bool false] 26) = w2 from HW2.out];refine (Cw (cd:=cd) (cm:=cm) HV.out hcl HB2.out HR.out).mono ?_;rintro x w3 ⟨rfl,hb3⟩;have HB3:=As (bj HB2.out hb3);have HP3:=As (HP2.out.up hb3);have y0:=HP3.out.c0;have y1:=HP3.out.c1;have y2:=HP3.out.c2;have y3:=HP3.out.c3;have y4:=HP3.out.c4;have f0:=HP3.out.frz 0;have f1:=HP3.out.frz 1;have f2:=HP3.out.frz 2;have f3:=HP3.out.frz 3;have f4:=HP3.out.frz 4;clear hb3)
   obtain ⟨z0,z1,z2,z3,z4⟩:=HP3.out.empty
   exact bodyPost_ret (v:=.tuple #[zEv, .bool false]) (by simp [results,Tryz.results11,go_sem,z0,z1,z2,z3,z4]) rfl ⟨_,_,_,rfl,Hz _ _,Aj (g:=w.heap.size + 1) HB3.out (by omega) zE _ _ _⟩
  ·have hE : Fa e left = (BL e left,true):=by rw [Fa,if_pos ⟨HV.out,e1.out⟩]
   rw [hE]
   obtain ⟨E,hEE⟩ : ∃ E,BL e left = E:=⟨_,rfl⟩
   have HEE:=As hEE
   rw [hEE]
   clear hE hEE
   have hl0:=e1.out
   have HLG:=As (BA HF.out.log)
   go_enter Tryz.func11,Tryz.ntmps11
   go_wp2_with (first
    | (go_at_call 24;rw [show (w.alloc (Obj.cells #[Value.slice Ad e.disk.length cd,Value.slice Am e.mem.length cm,Value.slice Al e.log.length cl,Value.int IntKind.i64 e.safe,Value.bool e.down] 26)).alloc (Obj.cells #[Value.slice none 0 0,Value.slice none 0 0,Value.slice none 0 0,Value.int IntKind.i64 0,Value.bool false] 26) = w2 from HW2.out];refine (Cw (cd:=cd) (cm:=cm) HV.out hcl HB2.out HR.out).mono ?_;rintro x w3 ⟨rfl,hb3⟩;have HB3:=As (bj HB2.out hb3);have HP3:=As (HP2.out.up hb3);have HX3:=As hb3;replace x0:=bc hb3 x0;replace x1:=bc hb3 x1;replace x2:=bc hb3 x2;replace x3:=bc hb3 x3;replace x4:=bc hb3 x4;clear hb3)
    | (go_at_call 35;refine (Gr (cd:=cd) (cm:=cm) (cl:=cl) (AZ HF.out.disk) (AZ HF.out.mem) HLG.out HB3.out HR.out).mono ?_;rintro x w4 ⟨vd,vm,vl,rfl,ho,hb4⟩;have HO4:=As (ho.lower (b':=w2.heap.size) HX3.out.size);have HB4:=As (bj HX3.out hb4);clear ho hb4 x0 x1 x2 x3 x4)
    | (go_at_call 34;refine (O1 (w0:=w2) left (AZ HF.out.disk) HF.out.s0 HF.out.s1 HLG.out HB4.out HO4.out).mono ?_;rw [HEE.out];rintro x w5 ⟨ud,um,ul,rfl,ho,hb5⟩;obtain ⟨Cd,gd,Cm,gm,Cl,gl,rfl,rfl,rfl, -, -⟩:=ho.reads;have HO5:=As ho;have HX5:=As hb5;have HB5:=As (bj HB2.out hb5);have HP5:=As (HP2.out.up hb5);have y0:=HP5.out.c0;have y1:=HP5.out.c1;have y2:=HP5.out.c2;have y3:=HP5.out.c3;have y4:=HP5.out.c4;have f0:=HP5.out.frz 0;have f1:=HP5.out.frz 1;have f2:=HP5.out.frz 2;have f3:=HP5.out.frz 3;have f4:=HP5.out.frz 4;clear ho hb5))
   have hz:=HZ2.out
   have hy:=HP5.out.Ap E (.slice Cd E.disk.length gd) (.slice Cm E.mem.length gm) (.slice Cl E.log.length gl)
   have h1:=HO5.out.Ap (f:=E) (xd:=.slice Cd E.disk.length gd) (xm:=.slice Cm E.mem.length gm) (xl:=.slice Cl E.log.length gl) HP5.out
   have h2:=Aj (g:=w.heap.size + 1) HB5.out (by omega) E (.slice Cd E.disk.length gd) (.slice Cm E.mem.length gm) (.slice Cl E.log.length gl)
   have z0:=hy.c0
   have z1:=hy.c1
   have z2:=hy.c2
   have z3:=hy.c3
   have z4:=hy.c4
   exact bodyPost_ret (v:=.tuple #[E.ag (.slice Cd E.disk.length gd) (.slice Cm E.mem.length gm) (.slice Cl E.log.length gl), .bool true]) (by simp [results,Tryz.results11,go_sem,z0,z1,z2,z3,z4]) rfl ⟨_,_,_,rfl,h1.lower (by omega),h2⟩
def OJ (w : World) (e : Ending) (w' : World) : Prop:=e = .returned (.bool true) ∧ Below w.heap.size w w'
theorem Lg (x : Int) : (x != x) = false:=by simp
theorem Ps (x : Int) : (x == x) = true:=by simp
theorem Vd (x : Bool) : (x == x) = true:=by simp
set_option maxHeartbeats 4000000 in
theorem P9 {w0 w1 w : World} {A B : Option Addr} {c d : Nat} {xs : List Int} (hb : Below w0.heap.size w0 w) (hr : Kd.C (Kd.int .i64) w0 A xs.length xs) (hb1 : Below w1.heap.size w1 w) (hr2 : Kd.C (Kd.int .i64) w1 B xs.length xs) : Calls Tryz.prog 65 #[.slice A xs.length c, .slice B xs.length d] w (OJ w):=by
 have HR:=As (BF hr hb)
 have HR2:=As (BF hr2 hb1)
 have hm:=(CY hr).2
 have hne:=Lg xs.length
 clear hr hb hr2 hb1
 go_enter Tryz.func65,Tryz.ntmps65
 go_wp2
 go_loopw [5] (fun i wr => ∃ k : Nat,k ≤ xs.length ∧ i = .int .i64 (k : Int) ∧ A7 (Below w.heap.size w wr)) (fun i _ => (xs.length - intOf i).toNat)
 case atStart => exact ⟨0,Nat.zero_le _,rfl,⟨Below.refl _ _⟩⟩
 case round =>
  obtain ⟨k,hk,rfl,HW⟩:=hrel
  by_cases hlt : k < xs.length
  ·obtain ⟨ad,rfl,g0⟩:=DW (BF HR.out HW.out) k hlt
   obtain ⟨bd,rfl,h0⟩:=DW (BF HR2.out HW.out) k hlt
   have G0:=As g0
   have H0:=As h0
   have hni:=Lg (iv xs k)
   clear g0 h0
   go_wp2
   refine Aq (fun w' => Below wr.heap.size wr w') rfl rfl (by kernel_rfl) (Ac (Below.refl _ _)) (fun HT => ?_)
   repeat (first
    | (refine AQ (fun wx hS => ?_))
    | (refine AB HT rfl (by rfl) (fun _ _ _ h => h) ?_;simp only [sc0,sc1])
    | (refine AP (v:=?_) HT rfl (by rfl) (fun _ _ _ h => h) (fun wx hS => ?_) ?_;rotate_left;(have g0:=bc hS G0.out;have h0:=bc hS H0.out;go_simp;with_reducible rfl);rotate_left;simp only [sc0,sc1]))
   have HX:=As (bj HW.out hS)
   clear hS
   go_wp2
   go_roundw
   case rel => exact ⟨k + 1,by omega,by go_num,HX⟩
   case measure => simp [intOf];omega
  ·have HE:=As (show k = xs.length by omega)
   go_wp2
   go_ret
   exact ⟨rfl,HW.out⟩
set_option maxRecDepth 100000 in
set_option maxHeartbeats 4000000 in
theorem P8 {w0 w1 w : World} {A B : Option Addr} {c d : Nat} {p : Page} (hb : Below w0.heap.size w0 w) (hr : Kd.C (Kd.int .i64) w0 A p.vals.length p.vals) (hb1 : Below w1.heap.size w1 w) (hr2 : Kd.C (Kd.int .i64) w1 B p.vals.length p.vals) : Calls Tryz.prog 30 #[p.val A c,p.val B d] w (OJ w):=by
 have HR:=As (BF hr hb)
 have HR2:=As (BF hr2 hb1)
 have HW:=As (bj (Lx w p A c) ((Below.refl _ _).alloc (Nat.le_refl _) (p.box B d)))
 have h1:=Ps p.lsn
 have h2:=Ps p.owner
 clear hr hb hr2 hb1
 go_enter Tryz.func30,Tryz.ntmps30
 go_wp2_with (first | (go_at_call 65;refine (P9 HW.out HR.out HW.out HR2.out).mono ?_;rintro x w9 ⟨rfl,hb9⟩;have HX:=As (bj HW.out hb9);clear hb9))
 go_ret
 exact ⟨rfl,HX.out⟩
set_option maxRecDepth 100000 in
set_option maxHeartbeats 4000000 in
theorem Kt {w0 w1 w : World} {A B : Option Addr} {c d : Nat} {xs : List Page} (hb : Below w0.heap.size w0 w) (hr : Kd.C CJ w0 A xs.length xs) (hb1 : Below w1.heap.size w1 w) (hr2 : Kd.C CJ w1 B xs.length xs) : Calls Tryz.prog 14 #[.slice A xs.length c, .slice B xs.length d] w (OJ w):=by
 have HR:=As (BF hr hb)
 have HR2:=As (BF hr2 hb1)
 have hm:=(CY hr).2
 have hne:=Lg xs.length
 clear hr hb hr2 hb1
 go_enter Tryz.func14,Tryz.ntmps14
 go_wp2
 go_loopw [5] (fun i wr => ∃ k : Nat,k ≤ xs.length ∧ i = .int .i64 (k : Int) ∧ A7 (Below w.heap.size w wr)) (fun i _ => (xs.length - intOf i).toNat)
 case atStart => exact ⟨0,Nat.zero_le _,rfl,⟨Below.refl _ _⟩⟩
 case round =>
  obtain ⟨k,hk,rfl,HW⟩:=hrel
  by_cases hlt : k < xs.length
  ·obtain ⟨ad,A2,c2,rfl,QP, -,g2⟩:=DT (BF HR.out HW.out) k hlt
   obtain ⟨bd,B2,d2,rfl,QP2, -,h2⟩:=DT (BF HR2.out HW.out) k hlt
   have G2:=As g2
   have H2:=As h2
   have HQ:=As QP
   have HQ2:=As QP2
   clear g2 h2 QP QP2
   go_wp2
   refine Aq (fun w' => Below wr.heap.size wr w') rfl rfl (by kernel_rfl) (Ac (Below.refl _ _)) (fun HT => ?_)
   repeat (first
    | (refine AQ (fun wx hS => ?_))
    | ((with_reducible refine Ay (f:=30) rfl ?_);refine Az (v:=.bool true) (args:=#[(pg xs k).val A2 c2,(pg xs k).val B2 d2]) HT rfl Tryz.func30 (by kernel_rfl) rfl rfl (by rfl) (fun _ _ _ h => h) (by simp only [List.map_toArray,List.map_cons,List.map_nil];rfl) (fun wx hS => (P8 hS G2.out hS H2.out).mono fun _ _ h => ⟨h.1,bj hS h.2⟩) ?_;simp only [sc0,sc1])
    | (refine AB HT rfl (by rfl) (fun _ _ _ h => h) ?_;simp only [sc0,sc1])
    | (refine AP (v:=?_) HT rfl (by rfl) (fun _ _ _ h => h) (fun wx hS => ?_) ?_;rotate_left;(obtain ⟨x0,x1,x2⟩:=HQ.out.up hS;obtain ⟨y0,y1,y2⟩:=HQ2.out.up hS;go_simp;with_reducible rfl);rotate_left;simp only [sc0,sc1]))
   have HX:=As (bj HW.out hS)
   clear hS
   go_wp2
   go_roundw
   case rel => exact ⟨k + 1,by omega,by go_num,HX⟩
   case measure => simp [intOf];omega
  ·have HE:=As (show k = xs.length by omega)
   go_wp2
   go_ret
   exact ⟨rfl,HW.out⟩
set_option maxRecDepth 100000 in
set_option maxHeartbeats 4000000 in
theorem P7 {w0 w1 w : World} {A B : Option Addr} {c d : Nat} {xs : List Rec} (hb : Below w0.heap.size w0 w) (hr : Kd.C kRec w0 A xs.length xs) (hb1 : Below w1.heap.size w1 w) (hr2 : Kd.C kRec w1 B xs.length xs) : Calls Tryz.prog 15 #[.slice A xs.length c, .slice B xs.length d] w (OJ w):=by
 have HR:=As (BF hr hb)
 have HR2:=As (BF hr2 hb1)
 have hm:=(CY hr).2
 have hne:=Lg xs.length
 clear hr hb hr2 hb1
 go_enter Tryz.func15,Tryz.ntmps15
 go_wp2
 go_loopw [5] (fun i wr => ∃ k : Nat,k ≤ xs.length ∧ i = .int .i64 (k : Int) ∧ A7 (Below w.heap.size w wr)) (fun i _ => (xs.length - intOf i).toNat)
 case atStart => exact ⟨0,Nat.zero_le _,rfl,⟨Below.refl _ _⟩⟩
 case round =>
  obtain ⟨k,hk,rfl,HW⟩:=hrel
  by_cases hlt : k < xs.length
  ·obtain ⟨ad,rfl,QP⟩:=Cs (BF HR.out HW.out) k hlt
   obtain ⟨bd,rfl,QP2⟩:=Cs (BF HR2.out HW.out) k hlt
   have HQ:=As QP
   have HQ2:=As QP2
   clear QP QP2
   go_wp2
   refine Aq (fun w' => Below wr.heap.size wr w') rfl rfl (by kernel_rfl) (Ac (Below.refl _ _)) (fun HT => ?_)
   repeat (first
    | (refine AQ (fun wx hS => ?_))
    | (refine AB HT rfl (by rfl) (fun _ _ _ h => h) ?_;simp only [sc0,sc1])
    | (refine AP (v:=?_) HT rfl (by rfl) (fun _ _ _ h => h) (fun wx hS => ?_) ?_;rotate_left;(obtain ⟨x0,x1,x2,x3,x4,x5,x6,x7⟩:=HQ.out.up hS;obtain ⟨y0,y1,y2,y3,y4,y5,y6,y7⟩:=HQ2.out.up hS;go_simp;with_reducible rfl);rotate_left;simp only [sc0,sc1]))
   have HX:=As (bj HW.out hS)
   clear hS
   go_wp2
   go_roundw
   case rel => exact ⟨k + 1,by omega,by go_num,HX⟩
   case measure => simp [intOf];omega
  ·have HE:=As (show k = xs.length by omega)
   go_wp2
   go_ret
   exact ⟨rfl,HW.out⟩
set_option maxRecDepth 100000 in
set_option maxHeartbeats 8000000 in
theorem UU {w0 w1 w : World} {e : Eng} {Ad Am Al Bd Bm Bl : Option Addr} {cd cm cl dd dm dl : Nat} (hb : Below w0.heap.size w0 w) (hr : Ff w0 e Ad Am Al) (hb1 : Below w1.heap.size w1 w) (hr2 : Ff w1 e Bd Bm Bl) : Calls Tryz.prog 13 #[e.val Ad Am Al cd cm cl,e.val Bd Bm Bl dd dm dl] w (OJ w):=by
 have HR:=As (hr.up hb)
 have HR2:=As (hr2.up hb1)
 have h1:=Ps e.safe
 have h2:=Vd e.down
 clear hr hb hr2 hb1
 obtain ⟨w2,hw2⟩ : ∃ w2,w.alloc (e.obox (.slice Ad e.disk.length cd) (.slice Am e.mem.length cm) (.slice Al e.log.length cl)) = w2:=⟨_,rfl⟩
 obtain ⟨w3,hw3⟩ : ∃ w3,w2.alloc (e.obox (.slice Bd e.disk.length dd) (.slice Bm e.mem.length dm) (.slice Bl e.log.length dl)) = w3:=⟨_,rfl⟩
 have HW3 : A7 ((w.alloc (e.obox (.slice Ad e.disk.length cd) (.slice Am e.mem.length cm) (.slice Al e.log.length cl))).alloc (e.obox (.slice Bd e.disk.length dd) (.slice Bm e.mem.length dm) (.slice Bl e.log.length dl)) = w3):=⟨by rw [hw2,hw3]⟩
 have HX : A7 (Below w.heap.size w w3):=⟨by rw [← hw3, ← hw2];exact Aa (Aa (Below.refl _ _) _) _⟩
 have hz : w2.heap.size = w.heap.size + 1:=by rw [← hw2,BD]
 have hq1 : Ab w3 w.heap.size e (.slice Ad e.disk.length cd) (.slice Am e.mem.length cm) (.slice Al e.log.length cl):=by
  have : Ab w2 w.heap.size e (.slice Ad e.disk.length cd) (.slice Am e.mem.length cm) (.slice Al e.log.length cl):=by rw [← hw2];exact Ab.mk1 _ _ _ _ _
  rw [← hw3]
  exact this.up (Aa (Below.refl _ _) _)
 have hq2 : Ab w3 (w.heap.size + 1) e (.slice Bd e.disk.length dd) (.slice Bm e.mem.length dm) (.slice Bl e.log.length dl):=by
  rw [← hw3, ← hz]
  exact Ab.mk1 _ _ _ _ _
 have x0:=hq1.c0
 have x1:=hq1.c1
 have x2:=hq1.c2
 have x3:=hq1.c3
 have x4:=hq1.c4
 have y0:=hq2.c0
 have y1:=hq2.c1
 have y2:=hq2.c2
 have y3:=hq2.c3
 have y4:=hq2.c4
 clear hw2 hw3 hz hq1 hq2
 go_enter Tryz.func13,Tryz.ntmps13
 go_wp2_with (first | (go_at_call 14;rw [HW3.out];refine (Kt (c:=cd) (d:=dd) HX.out HR.out.d HX.out HR2.out.d).mono ?_;rintro x w9 ⟨rfl,hb9⟩;have HX:=As (bj HX.out hb9);replace x0:=bc hb9 x0;replace x1:=bc hb9 x1;replace x2:=bc hb9 x2;replace x3:=bc hb9 x3;replace x4:=bc hb9 x4;replace y0:=bc hb9 y0;replace y1:=bc hb9 y1;replace y2:=bc hb9 y2;replace y3:=bc hb9 y3;replace y4:=bc hb9 y4;clear hb9) | (go_at_call 14;refine (Kt (c:=cm) (d:=dm) HX.out HR.out.m HX.out HR2.out.m).mono ?_;rintro x w9 ⟨rfl,hb9⟩;have HX:=As (bj HX.out hb9);replace x0:=bc hb9 x0;replace x1:=bc hb9 x1;replace x2:=bc hb9 x2;replace x3:=bc hb9 x3;replace x4:=bc hb9 x4;replace y0:=bc hb9 y0;replace y1:=bc hb9 y1;replace y2:=bc hb9 y2;replace y3:=bc hb9 y3;replace y4:=bc hb9 y4;clear hb9) | (go_at_call 15;refine (P7 (c:=cl) (d:=dl) HX.out HR.out.l HX.out HR2.out.l).mono ?_;rintro x w9 ⟨rfl,hb9⟩;have HX:=As (bj HX.out hb9);replace x0:=bc hb9 x0;replace x1:=bc hb9 x1;replace x2:=bc hb9 x2;replace x3:=bc hb9 x3;replace x4:=bc hb9 x4;replace y0:=bc hb9 y0;replace y1:=bc hb9 y1;replace y2:=bc hb9 y2;replace y3:=bc hb9 y3;replace y4:=bc hb9 y4;clear hb9))
 go_ret
 exact ⟨rfl,HX.out⟩
set_option maxRecDepth 100000 in
set_option maxHeartbeats 4000000 in
theorem Vo {w0 w : World} {e : Eng} {Ad Am Al : Option Addr} {cd cm cl : Nat} (hcl : e.log.length ≤ cl) (hb : Below w0.heap.size w0 w) (hr : Ff w0 e Ad Am Al) : Calls Tryz.prog 25 #[e.val Ad Am Al cd cm cl] w fun x w' => x = .returned (.int .i64 (if eOk e = true then (need e.log : Int) else -1)) ∧ Below w.heap.size w w':=by
 have HR:=As (hr.up hb)
 clear hr hb
 obtain ⟨w1,hw1⟩ : ∃ w1,w.alloc (e.obox (.slice Ad e.disk.length cd) (.slice Am e.mem.length cm) (.slice Al e.log.length cl)) = w1:=⟨_,rfl⟩
 have HW1:=As hw1
 have HB1 : A7 (Below w.heap.size w w1):=⟨by rw [← hw1];exact Aa (Below.refl _ _) _⟩
 have HQ1 : A7 (Ab w1 w.heap.size e (.slice Ad e.disk.length cd) (.slice Am e.mem.length cm) (.slice Al e.log.length cl)):=⟨by rw [← hw1];exact Ab.mk1 _ _ _ _ _⟩
 clear hw1
 have x2:=HQ1.out.c2
 cases hv : eOk e
 all_goals
  have HV:=As hv
  clear hv
  go_enter Tryz.func25,Tryz.ntmps25
  go_wp2_with (first | (go_at_call 16;rw [HW1.out];refine (BU (cd:=cd) (cm:=cm) HV.out hcl HB1.out HR.out).mono ?_;rintro x w2 ⟨rfl,hb2⟩;have HB2:=As (bj HB1.out hb2);replace x2:=bc hb2 x2;clear hb2) | (go_at_call 61;refine (NE (c:=cl) HB2.out HR.out.l (Ct.1 HV.out).log).mono ?_;rintro x w3 ⟨rfl,hb3⟩;have HB3:=As (bj HB2.out hb3);clear hb3))
  go_ret
 ·exact ⟨rfl,HB2.out⟩
 ·exact ⟨rfl,HB3.out⟩
open Go.RowKit Go.Proofs.YtjeodgfkilhkhaaGreatW.PrintWords Go.Proofs.YtjeodgfkilhkhaaGreatW.PrintLast Go.Proofs.YtjeodgfkilhkhaaGreatW.PrintMore Go.ChangeShapes Go.WideShapes Go.Deep
section
variable {H : Type} {enc : TypeId × Value → H} {P : Program} {w : World} {spare : Nat → Bool} {held : Bool}
def Opens (P : Program) (enc : TypeId × Value → H) (w : World) (spare : Nat → Bool) (held : Bool) {α : Type} (d : Kd α) (t : TypeId) : Prop:=
 ∀ fuel cs x,DataW.trod enc P w 0 spare held fuel t cs = some x → ∃ a,d.K w a cs
theorem U3 {t : TypeId} {k : IntKind} (ht : P.underlying t = some (.int k)) : Opens P enc w spare held (Kd.int k) t:=by
 intro fuel cs x h
 obtain ⟨n,rfl, -⟩:=DataW.trod_int ht h
 exact ⟨n,rfl⟩
theorem Vg {a : Addr} {n : Nat} {cs : List Value} (h : w.cells? 0 a n = some cs) (i : Nat) (u : Value) (hi : cs[i]? = some u) : w.cell? (a.add i) = some u:=by
 unfold World.cells? at h
 rw [if_pos (Nat.zero_le _)] at h
 have hl:=mapM_some_length h
 have hlt : i < n:=by have:=(List.getElem?_eq_some_iff.1 hi).1;simp at hl;omega
 rw [mapM_some_get h i i (by simp [hlt]),hi]
theorem Qj {α : Type} {d : Kd α} {t e : TypeId} (ht : P.underlying t = some (.slice e)) (hsz : P.cellsOf e = d.sz) (hd : Opens P enc w (fun _ => true) held d e) : Opens P enc w (fun _ => true) held (Kd.slice e d) t:=by
 intro fuel cs x h
 rcases open_slice ht h with ⟨rfl, -⟩ | ⟨a,len,cap,m,n,D,Pl,rfl, -,hl,hc,hm, -,hel⟩
 ·exact ⟨[],none,0,rfl,Nat.le_refl _,rfl,by simp,fun h0 => by simp at h0⟩
 ·rw [if_pos rfl] at hm
  subst hm
  have key : ∀ j,j ≤ len → ∃ xs : List α,xs.length = j ∧ ∀ i p,xs[i]? = some p → ∃ c,c.length = d.sz ∧ d.K w p c ∧ ∀ k u,c[k]? = some u → w.cell? (a.add (i * d.sz + k)) = some u:=by
   intro j
   induction j with
   | zero => exact fun _ => ⟨[],rfl,fun i p hp => by simp at hp⟩
   | succ j ih =>
    intro hj
    obtain ⟨xs,h1,h2⟩:=ih (by omega)
    obtain ⟨cs',h3,h4⟩:=hel j (by omega)
    obtain ⟨p,hp⟩:=hd _ _ _ h4
    refine ⟨xs ++ [p],by simp [h1],fun i q hq => ?_⟩
    by_cases hi : i < j
    ·exact h2 i q (by rwa [List.getElem?_append_left (by omega)] at hq)
    ·have hlt:=(List.getElem?_eq_some_iff.1 hq).1
     have hij : i = j:=by simp [h1] at hlt;omega
     subst hij
     rw [List.getElem?_append_right (by omega),h1,Nat.sub_self] at hq
     cases hq
     refine ⟨cs',d.K_len hp,hp,fun k u hk => ?_⟩
     rw [hsz] at h3
     rw [← Go.Deep.add_add]
     exact Vg h3 k u hk
  obtain ⟨xs,h1,h2⟩:=key len (Nat.le_refl _)
  exact ⟨xs,some a,m,by rw [h1],by rw [h1];exact hl,rfl,by rw [h1];have : maxLen = 9223372036854775807:=rfl;omega,fun _ => ⟨a,rfl,h2⟩⟩
end
section
variable {H : Type} {enc : TypeId × Value → H} {w : World} {held : Bool}
end
end Go.Proofs.YtjeodgfkilhkhaaGreat
