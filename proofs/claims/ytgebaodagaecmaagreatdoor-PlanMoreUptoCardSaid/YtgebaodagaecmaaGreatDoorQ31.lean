/- Contracts of functions of the program: what each returns and leaves in memory. Printed by gen.py and walk.py. -/
import Derived.Test.YtgebaodagaecmaaGreatDoorMg24
set_option maxRecDepth 10000
namespace Go.Proofs.YtgebaodagaecmaaGreatDoor
open Go Go.Hw
set_option linter.unusedSimpArgs false
set_option linter.unusedVariables false
theorem snapK {w w1 w2:World}{ow:List Hw.Item}(hw:Sat w (fun _=>False) (fun b=>b<w1.heap.size∧∀ i∈([]:List Hw.Item),¬ i.D b) w1 ow w2):Keeps w1 w2:=fun a v h=>by
 have h1:=World.block_lt_of_cell? w1 _ h
 have h2:=(hw.snap a.block ⟨h1,fun i hi=>by cases hi⟩).2
 unfold World.cell? at h ⊢
 rw [h2];exact h
theorem snapB {w w1 w2:World}{A ow:List Hw.Item}(hw:Sat w (fun _=>False) (fun b=>b<w1.heap.size∧∀ i∈([]:List Hw.Item),¬ i.D b) w1 (A++ow) w2):∀ b,DD A b→w1.heap.size≤b:=fun b ⟨i,hi,hb⟩=>by
 have h:=(hw.lt i (List.mem_append_left _ hi) b hb).2.1
 rcases Nat.lt_or_ge b w1.heap.size with h1 | h1
 ·exact absurd ⟨h1,fun i hi=>by cases hi⟩ h
 ·exact h1
theorem Jfz {O N X:List At}:∀ q∈Jd6 O N X,factB q.1=true:=fun q hq=>(mem_filled.1 hq).1
theorem facts_turn {F:List (At × Nat)}(h:∀ q∈F,factB q.1=true):∀ q∈turnF F,factB q.1=true:=fun q hq=>by
 obtain ⟨x,n⟩:=q
 obtain ⟨m,hm,_⟩:=mem_turnF.1 hq
 exact h (x,m) hm
theorem facts_add {F:List (At × Nat)}(h:∀ q∈F,factB q.1=true)(l:List At):∀ q∈Jdj F l,factB q.1=true:=fun q hq=>by
 rcases (Jfh l F q).1 hq with h1 | h1
 ·exact h q h1
 ·exact h1.2.2.1
theorem most_small {n:Nat}(h:n≤8):(4*(mostN n / 2)) ^ n≤1048576:=by
 have h2:∀ m:Fin 9,(4*(mostN m.1 / 2)) ^ m.1≤1048576:=by decide +kernel
 exact h2 ⟨n,by omega⟩
theorem most_le {n:Nat}(h:n≤8):mostN n≤60:=by
 have h2:∀ m:Fin 9,mostN m.1≤60:=by decide
 exact h2 ⟨n,by omega⟩
theorem Jlj {a n m:Nat}(h:a≤4*m)(h2:(4*m) ^ n≤1048576):a ^ n≤1048576:=Nat.le_trans (Nat.pow_le_pow_left h n) h2
theorem Jf9 {α:Type}(l:List α)(n:Nat):(l.take n).length≤n:=by rw [List.length_take];omega
theorem rev_mem {ys:List AG}{n:Nat}{x:At}:x∈mfL (ys.take n).reverse n↔x∈mfL ys n:=by
 unfold mfL
 rw [List.take_of_length_le (by rw [List.length_reverse];exact Jf9 ys n)]
 simp only [List.mem_map,List.mem_reverse]
theorem FS.rev {ys:List AG}(h:FS ys)(n:Nat):FS (ys.take n).reverse where
 l:=by have h1:=h.l;rw [List.length_reverse,List.length_take];omega
 y:=fun y hy=>h.y y (List.mem_of_mem_take (List.mem_reverse.1 hy))
theorem RA.rev {w0 ws w:World}{M I:Nat→Prop}{ow:List Hw.Item}{a:Option Addr}{c:Nat}{ys zs:List AG}(hw:Sat w0 M I ws ow w)(hm:rowAt a c zs∈ow)(hs:∀ y∈zs,y∈ys)(h:∀ y∈ys,RT w y.a y.x.args):RA w a zs:=by
 refine ⟨fun ha=>?_,fun q hq i y hy j v hv=>?_,fun y hy=>h y (hs y hy)⟩
 ·rcases (Jdh hw hm).2 with ⟨_,h,_⟩ | ⟨b,hb,_⟩
  ·exact h
  ·rw [ha] at hb;cases hb
 ·subst hq
  have hj:j<5:=(List.getElem?_eq_some_iff.1 hv).1
  have h1:=Jc0 hw hm (i*5+j) v (by rw [Jcl Jnb zs i j y hy hj];exact hv)
  rwa [Jdg] at h1
theorem more_ok {c:Cl}{n:Nat}{O N X O' N' X' Y:List At}(ho:∀ x,x∈O'↔x∈O)(hn:∀ x,x∈N'↔x∈N){l m k:List (List Tm)}(hl:Str cmpR l)(hm:Str cmpR m) 
  (el:∀ r,r∈l↔Sol (FFs (Jd6 O N X) none) c n r) (em:∀ r,r∈m↔Sol (FFs (Jd6 O' N' X') none) c n r) (ek:∀ r,r∈k↔Sol (FFs (turnF (Jdj (Jd6 O N X) Y)) none) c n r):l=m∧∀ r∈l,r∈k:=by
 have h3:∀ (F:List (At × Nat)) i x,FFs F none i x↔x∈selF F 3:=fun _ _ _=>Iff.rfl
 refine ⟨Str.ext cmpR_ok hl hm fun r=>(el r).trans ((Sol.congr fun i x=>?_).trans (em r).symm),fun r hr=>(ek r).2 (Sol.mono (fun i x hx=>?_) ((el r).1 hr))⟩
 ·rw [h3,h3,sel_filled,sel_filled,ho,hn]
 ·rw [h3] at hx ⊢
  exact sel_more hx
set_option maxHeartbeats 4000000 in
theorem planMore_calls (f:FG)(ho:FS f.o)(hnn:FS f.n)(hx:FS f.x)(ys:List AG)(ya0:Option Addr)(yc0:Nat)(hy0:FS ys)(g:CG)(hs:∀ y,y=g.hd∨y∈g.bd→y.x.args.length≤1048576∧y.x.name.size≤1099511627776)(hbl:g.bd.length≤1048576)(htl:g.ts.length≤1048576)(w:World)(hN:Jcw w)(hC:Jjf w)(hr:RF w f)(hrm:RA w ya0 ys)(hrg:RC w g):Calls Tryz.prog 4 #[.agg (fgC f).toArray,.slice ya0 ys.length yc0,cgV g] w fun e w'=>e=.returned (.bool true)∧Fr0 w w':=by
 refine Jbm (args:=[.agg (fgC f).toArray,.slice ya0 ys.length yc0,cgV g]) (fun _=>False) Tryz.func4 rfl Tryz.ntmps4 rfl rfl ?_
 refine Csr (WL.box rfl rfl rfl ?_)
 intro b3
 refine WL.box rfl rfl rfl ?_
 intro b5
 refine Za rfl (Nn (Csr (Zv (OV.lN (cs:=cgC g) rfl T.u32 rfl T.z32 (.head _)) (WL.cT (ι:=CG) (vs:=[cgV g]) (vv:=fun q=>cgV q) (pp:=fun q=>q.cl=madeC g.cl) [] (AA:=fun q=>cgA q) rfl (fun w' hw' _=>made_calls g hs hbl htl w' (hrg.keeps hw'.keeps)) ?_))))
 rintro q hq
 have hv:VC q.cl:=by rw [hq];exact madeC_ok _
 have hqb:q.cl.bd.length=q.bd.length:=List.length_map _
 refine WL.alloc T.zr32 rfl ?_
 intro b7
 refine WL.ag (vs:=cgC q) rfl rfl rfl T.z32 rfl ?_
 refine Nn (Cs (WC.weak (S':=Sat w (fun _=>False) (fun b=>b<w.heap.size) w ((oQ b7 (cgC q) 32::(cgA q++[oQ b5 (cgC g) 32,oQ b3 (fgC f) 24]))++[])) (fun w' hw=>by rw [List.append_nil];exact hw) ?_))
 refine WC.snap (fun w1 hw1=>?_)
 rw [List.append_nil] at hw1
 have hrq:RC w1 q:=RC.of_items hw1 (fun i hi=>show i∈oQ b7 (cgC q) 32::(cgA q++[oQ b5 (cgC g) 32,oQ b3 (fgC f) 24]) from .tail _ (List.mem_append_left _ hi))
 have hb7:∀ j v,(cgC q)[j]?=some v→w1.cell? ⟨b7,j,none⟩=some v:=Ja0 hw1 (.head _)
 have hb3:∀ j v,(fgC f)[j]?=some v→w1.cell? ⟨b3,j,none⟩=some v:=Ja0 hw1 (show oQ b3 (fgC f) 24∈_ by simp)
 have hk1:=hw1.keeps
 replace hN:=hN.keeps hk1
 replace hC:=hC.keeps hk1
 replace hr:RF w1 f:=⟨hr.o.keeps hk1,hr.n.keeps hk1,hr.x.keeps hk1⟩
 replace hrm:RA w1 ya0 ys:=hrm.keeps hk1
 have hb8:q.bd.length≤8:=by rw [← hqb];exact hv.bl
 have hm60:=most_le hb8
 have hmsm:=most_small hb8
 refine Cr (Zv (OV.f0 5 rfl T.u32 rfl) (Zv (OV.ah (v:=.slice q.ba q.bd.length q.bc) rfl T.u22 rfl (fun _ hw=>snapK hw _ _ (hb7 5 _ rfl))) (Zv (OV.ae rfl T.u22) (WL.au (v:=.int .i64 ((mostN q.bd.length:Nat):Int)) (by kernel_rfl) rfl rfl (fun w' hw'=>most_law q.bd.length hb8 w') ?_))))
 refine Zv (OV.quoN (j:=2) rfl rfl (by omega)) (Za rfl (Nn (Cs ?_)))
 obtain ⟨n,hn⟩:∃ n,n=mostN q.bd.length / 2:=⟨_,rfl⟩
 rw [← hn] at hmsm ⊢
 have hn30:n≤30:=by omega
 have t1:=Jf9 f.o n
 have t2:=Jf9 f.n n
 have t3:=Jf9 f.x n
 have t4:=Jf9 ys n
 have t5:=Jf9 (f.o.take n).reverse n
 have t6:=Jf9 (f.n.take n).reverse n
 have t7:=Jf9 (f.x.take n).reverse n
 refine Cr (Zv (OV.ai (cs:=fgC f) rfl T.u24 rfl T.z24 (fun _ hw j v hj=>by rw [Jar,Nat.zero_add];exact snapK hw _ _ (hb3 j v hj))) (Zm rfl (WL.cT (ι:=BaseG) (vs:=[.agg (fgC f).toArray,.int .i64 (n:Int)]) (vv:=fun g'=>ptr g'.p) (pp:=fun g'=>BS g' (0+(f.o.take n).length+(f.n.take n).length+(f.x.take n).length) (Jd6 (mfL f.o n) (mfL f.n n) (mfL f.x n))) [] (AA:=fun g'=>baseA g') rfl (fun w' hw' _=>Jik f n ho hnn hx w' (hN.keeps (snapK hw')) ⟨hr.o.keeps (snapK hw'),hr.n.keeps (snapK hw'),hr.x.keeps (snapK hw')⟩) ?_)))
 rintro h1 bh1
 obtain ⟨ph1,hph1⟩:∃ p,h1.p=p:=⟨_,rfl⟩
 rw [hph1]
 refine Za rfl (Nn (Csr (Zv (OV.ai (cs:=fgC f) rfl T.u24 rfl T.z24 (fun _ hw j v hj=>by rw [Jar,Nat.zero_add];exact snapK hw _ _ (hb3 j v hj))) (Zm rfl (WL.cT (ι:=BaseG) (vs:=[.agg (fgC f).toArray,.int .i64 (n:Int)]) (vv:=fun g'=>ptr g'.p) (pp:=fun g'=>BS g' (0+(f.o.take n).length+(f.n.take n).length+(f.x.take n).length) (Jd6 (mfL f.o n) (mfL f.n n) (mfL f.x n))) [] (AA:=fun g'=>baseA g') rfl (fun w' hw' _=>Jik f n ho hnn hx w' (hN.keeps (snapK hw')) ⟨hr.o.keeps (snapK hw'),hr.n.keeps (snapK hw'),hr.x.keeps (snapK hw')⟩) ?_)))))
 rintro h2 bh2
 obtain ⟨ph2,hph2⟩:∃ p,h2.p=p:=⟨_,rfl⟩
 rw [hph2]
 refine Za rfl (Nn (Cs (Hd (fun w'=>∀ j v,(fgC f)[j]?=some v→w'.cell? ⟨b3,j,none⟩=some v) [] (fun _ hw j v hj=>snapK hw _ _ (hb3 j v hj)) (m:=16) rfl ?_)))
 refine Hf 0 rfl (OV.f0 0 rfl T.u24 rfl) (Ht 1 rfl (OV.ah (v:=.slice f.oa f.o.length f.oc) rfl T.u22 rfl (fun _ hw=>hw 0 _ rfl)) (Hf 2 rfl (OV.aw rfl) (Hf 4 rfl (OV.f0 1 rfl T.u24 rfl) (Ht 5 rfl (OV.ah (v:=.slice f.na f.n.length f.nc) rfl T.u22 rfl (fun _ hw=>hw 1 _ rfl)) (Hf 6 rfl (OV.aw rfl) (Hf 8 rfl (OV.f0 2 rfl T.u24 rfl) (Ht 9 rfl (OV.ah (v:=.slice f.xa f.x.length f.xc) rfl T.u22 rfl (fun _ hw=>hw 2 _ rfl)) (Hf 10 rfl (OV.aw rfl) (Hf 13 rfl (OV.aw rfl) (Ho 3 rfl (fl':=false) rfl ?_))))))))))
 refine WL.cT (ι:=Option Addr × Nat) (vs:=[.slice f.oa f.o.length f.oc,.int .i64 (n:Int)]) (vv:=fun z=>.slice z.1 (f.o.take n).reverse.length z.2) (pp:=fun _=>True) [] (AA:=fun z=>[rowAt z.1 z.2 (f.o.take n).reverse]) rfl (fun w' hw' _=>(Jjz f.o f.oa f.oc n (by have:=ho.l;omega) w' (hr.o.keeps (snapK hw'))).mono (fun en w'' ⟨z,h1,h2⟩=>⟨z,h1,trivial,h2⟩)) ?_
 rintro ⟨za,zc⟩ _
 refine Hc (fun _=>(fun _ hw j v hj=>snapK hw _ _ (hb3 j v hj))) ?_
 refine Ho 7 rfl (fl':=false) rfl ?_
 refine WL.cT (ι:=Option Addr × Nat) (vs:=[.slice f.na f.n.length f.nc,.int .i64 (n:Int)]) (vv:=fun z=>.slice z.1 (f.n.take n).reverse.length z.2) (pp:=fun _=>True) [] (AA:=fun z=>[rowAt z.1 z.2 (f.n.take n).reverse]) rfl (fun w' hw' _=>(Jjz f.n f.na f.nc n (by have:=hnn.l;omega) w' (hr.n.keeps (snapK hw'))).mono (fun en w'' ⟨z,h1,h2⟩=>⟨z,h1,trivial,h2⟩)) ?_
 rintro ⟨ya,yc⟩ _
 refine Hc (fun _=>(fun _ hw j v hj=>snapK hw _ _ (hb3 j v hj))) ?_
 refine Ho 11 rfl (fl':=false) rfl ?_
 refine WL.cT (ι:=Option Addr × Nat) (vs:=[.slice f.xa f.x.length f.xc,.int .i64 (n:Int)]) (vv:=fun z=>.slice z.1 (f.x.take n).reverse.length z.2) (pp:=fun _=>True) [] (AA:=fun z=>[rowAt z.1 z.2 (f.x.take n).reverse]) rfl (fun w' hw' _=>(Jjz f.x f.xa f.xc n (by have:=hx.l;omega) w' (hr.x.keeps (snapK hw'))).mono (fun en w'' ⟨z,h1,h2⟩=>⟨z,h1,trivial,h2⟩)) ?_
 rintro ⟨xa,xc⟩ _
 refine Hc (fun _=>(fun _ hw j v hj=>snapK hw _ _ (hb3 j v hj))) ?_
 refine Hf 12 rfl (OV.ao (xs:=[(0,.tmp 35),(1,.tmp 39),(2,.tmp 43)]) (pl:=[(0,1),(1,1),(2,1)]) (cs:=fgC (⟨za,zc,(f.o.take n).reverse,ya,yc,(f.n.take n).reverse,xa,xc,(f.x.take n).reverse⟩:FG)) T.u24 T.zr24 (by kernel_rfl) rfl (Jak (us:=[_]) rfl rfl (Nat.le_of_ble_eq_true rfl) (Jak (us:=[_]) rfl rfl (Nat.le_of_ble_eq_true rfl) (Jak (us:=[_]) rfl rfl (Nat.le_of_ble_eq_true rfl) rfl)))) (Ho 14 rfl (fl':=false) rfl ?_)
 refine WL.cT (ι:=BaseG) (vs:=[.agg (fgC (⟨za,zc,(f.o.take n).reverse,ya,yc,(f.n.take n).reverse,xa,xc,(f.x.take n).reverse⟩:FG)).toArray,.int .i64 (n:Int)]) (vv:=fun g'=>ptr g'.p) (pp:=fun g'=>BS g' (0+((⟨za,zc,(f.o.take n).reverse,ya,yc,(f.n.take n).reverse,xa,xc,(f.x.take n).reverse⟩:FG).o.take n).length+((⟨za,zc,(f.o.take n).reverse,ya,yc,(f.n.take n).reverse,xa,xc,(f.x.take n).reverse⟩:FG).n.take n).length+((⟨za,zc,(f.o.take n).reverse,ya,yc,(f.n.take n).reverse,xa,xc,(f.x.take n).reverse⟩:FG).x.take n).length) (Jd6 (mfL (⟨za,zc,(f.o.take n).reverse,ya,yc,(f.n.take n).reverse,xa,xc,(f.x.take n).reverse⟩:FG).o n) (mfL (⟨za,zc,(f.o.take n).reverse,ya,yc,(f.n.take n).reverse,xa,xc,(f.x.take n).reverse⟩:FG).n n) (mfL (⟨za,zc,(f.o.take n).reverse,ya,yc,(f.n.take n).reverse,xa,xc,(f.x.take n).reverse⟩:FG).x n))) [] (AA:=fun g'=>baseA g') rfl (fun w' hw' _=>Jik (⟨za,zc,(f.o.take n).reverse,ya,yc,(f.n.take n).reverse,xa,xc,(f.x.take n).reverse⟩:FG) n (ho.rev n) (hnn.rev n) (hx.rev n) w' (hN.keeps (snapK hw')) ⟨RA.rev (c:=zc) (show Sat w (fun _=>False) (fun b=>b<w1.heap.size∧∀ i∈([]:List Hw.Item),¬ i.D b) w1 (rowAt xa xc (f.x.take n).reverse::rowAt ya yc (f.n.take n).reverse::rowAt za zc (f.o.take n).reverse::(baseA h2++(baseA h1++[]))) w' from hw') (.tail _ (.tail _ (.head _))) (fun y hy=>List.mem_of_mem_take (List.mem_reverse.1 hy)) (fun y hy=>(hr.o.args y hy).keeps (snapK hw')),RA.rev (c:=yc) (show Sat w (fun _=>False) (fun b=>b<w1.heap.size∧∀ i∈([]:List Hw.Item),¬ i.D b) w1 (rowAt xa xc (f.x.take n).reverse::rowAt ya yc (f.n.take n).reverse::rowAt za zc (f.o.take n).reverse::(baseA h2++(baseA h1++[]))) w' from hw') (.tail _ (.head _)) (fun y hy=>List.mem_of_mem_take (List.mem_reverse.1 hy)) (fun y hy=>(hr.n.args y hy).keeps (snapK hw')),RA.rev (c:=xc) (show Sat w (fun _=>False) (fun b=>b<w1.heap.size∧∀ i∈([]:List Hw.Item),¬ i.D b) w1 (rowAt xa xc (f.x.take n).reverse::rowAt ya yc (f.n.take n).reverse::rowAt za zc (f.o.take n).reverse::(baseA h2++(baseA h1++[]))) w' from hw') (.head _) (fun y hy=>List.mem_of_mem_take (List.mem_reverse.1 hy)) (fun y hy=>(hr.x.args y hy).keeps (snapK hw'))⟩) ?_
 rintro h3 bh3
 obtain ⟨ph3,hph3⟩:∃ p,h3.p=p:=⟨_,rfl⟩
 rw [hph3]
 replace bh3:BS h3 (0+((f.o.take n).reverse.take n).length+((f.n.take n).reverse.take n).length+((f.x.take n).reverse.take n).length) (Jd6 (mfL (f.o.take n).reverse n) (mfL (f.n.take n).reverse n) (mfL (f.x.take n).reverse n)):=bh3
 refine Hc (fun _=>(fun _ hw j v hj=>snapK hw _ _ (hb3 j v hj))) ?_
 refine Hf 15 rfl (OV.assign rfl) (He (Xn (Cs (Csr (Zm rfl (Zv ((OV.jh T.u35 rfl rfl).cast (u:=.bool false) rfl) (Zm rfl (WL.known (t:=49) (b:=false) rfl (by rfl) ?_))))))))
 refine Zg rfl rfl rfl (Zm rfl (Zg rfl rfl rfl (Zv ((OV.jh T.u35 rfl rfl).cast (u:=.bool false) rfl) (Zv (OV.aj rfl rfl) (Zm rfl (WL.known (t:=53) (b:=false) rfl (by rfl) ?_))))))
 refine Zg rfl rfl rfl (Zm rfl (Zg rfl rfl rfl (Zv ((OV.jh T.u35 rfl rfl).cast (u:=.bool false) rfl) (Zv (OV.aj rfl rfl) (Zm rfl (WL.known (t:=57) (b:=false) rfl (by rfl) ?_))))))
 refine Zg rfl rfl rfl (WL.c0 (v:=.bool true) (vs:=[]) (fun w' hw'=>first_calls w' (hN.keeps (snapK hw')) (hC.keeps (snapK hw'))) ?_)
 refine Zg rfl rfl rfl (Zv (OV.not rfl) (Zv (OV.aj rfl rfl) (Nn (WC.bw (show _=some (Value.bool false) from by rfl) ?_))))
 refine Ck (Xn (Csr (Zm rfl (Zm rfl (Zm rfl (WL.focus (ow':=baseA h2++(baseA h3++([rowAt xa xc (f.x.take n).reverse,rowAt ya yc (f.n.take n).reverse,rowAt za zc (f.o.take n).reverse]++(baseA h1++[])))) (pmC [baseA h3,[rowAt xa xc (f.x.take n).reverse,rowAt ya yc (f.n.take n).reverse,rowAt za zc (f.o.take n).reverse],baseA h2,baseA h1++[]] [2,0,1,3]) ?_))))))
 refine WL.cT (ι:=BaseG) (vs:=[ptr ph2,.slice ya0 ys.length yc0,.int .i64 (n:Int)]) (vv:=fun _=>.tuple #[]) (pp:=fun g'=>BS g' (0+(f.o.take n).length+(f.n.take n).length+(f.x.take n).length+(ys.take n).length) (Jdj (Jd6 (mfL f.o n) (mfL f.n n) (mfL f.x n)) (mfL ys n))∧g'.p=ph2) (baseA h2) (AA:=fun g'=>baseA g') rfl (fun w' hw' hH=>by
  have h9:=Ji1 h2 _ _ bh2 ys ya0 yc0 n (by have:=hy0.l;omega) hy0.y (by have:=hy0.l;omega) w1 w' (snapK hw') (snapB hw') hN hrm hH
  rw [hph2] at h9
  exact h9) ?_
 rintro h4 ⟨bh4,hph4⟩
 refine Nn (Csr (Zm rfl ?_))
 refine WL.cT (ι:=BaseG) (vs:=[ptr ph2]) (vv:=fun _=>.int .i64 ((n4F _:Nat):Int)) (pp:=fun g'=>BS g' _ (turnF _)∧g'.p=ph2) (baseA h4) (AA:=fun g'=>baseA g') rfl (fun w' hw' hH=>by
  have h9:=Jlx h4 _ _ bh4 w' hH
  rw [hph4] at h9
  exact h9) ?_
 rintro h5 ⟨bh5,hph5⟩
 refine Nn (Csr (Zm rfl (Zv (OV.ai (cs:=cgC q) rfl T.u32 rfl T.z32 (fun _ hw j v hj=>by rw [Jar,Nat.zero_add];exact snapK hw _ _ (hb7 j v hj))) (WL.focus (ow':=baseA h1++(baseA h5++(baseA h3++[rowAt xa xc (f.x.take n).reverse,rowAt ya yc (f.n.take n).reverse,rowAt za zc (f.o.take n).reverse]))) (List.Perm.trans (pmC [baseA h5,baseA h3,[rowAt xa xc (f.x.take n).reverse,rowAt ya yc (f.n.take n).reverse,rowAt za zc (f.o.take n).reverse],baseA h1] [3,0,1,2]) (List.Perm.of_eq (by simp [cat]))) ?_))))
 refine WL.cT (ι:=BaseG × Option Addr × Nat × List TG) (vs:=[ptr ph1,cgV q,.int .i64 (-1)]) (vv:=fun z=>.tuple #[.slice z.2.1 z.2.2.2.length z.2.2.1,.int .i64 0]) (pp:=fun z=>Str cmpR (z.2.2.2.map TG.l)∧(∀ r,r∈z.2.2.2.map TG.l↔Sol (FFs (Jd6 (mfL f.o n) (mfL f.n n) (mfL f.x n)) none) q.cl (nV q.cl) r)∧z.2.2.2.length≤1048576) (baseA h1) (AA:=fun z=>baseA z.1++(rowR z.2.1 z.2.2.1 z.2.2.2::z.2.2.2.map tgA)) rfl (fun w' hw' hH=>by
  have h9:=Ji7 h1 _ _ bh1 (by omega) Jfz q hv.cs hv none (fun l hl=>by cases hl) (Jlj (Nat.le_trans bh1.fk (by omega)) hmsm) w1 w' (snapK hw') (snapB hw') hN hC hrq hH
  rw [hph1] at h9
  exact h9.mono (fun en w'' ⟨z,h1,⟨_,h2,h3,h5⟩,h4⟩=>⟨z,h1,⟨h2,h3,h5⟩,h4⟩)) ?_
 rintro ⟨k1,lla,llc,ll⟩ ⟨sll,ell,zll⟩
 dsimp only at sll ell zll
 refine Zm rfl (Zv (OV.extract rfl rfl) (Zv (OV.extract rfl rfl) (Za rfl (Za rfl (Nn (Csr (Zm rfl (Zv (OV.ai (cs:=cgC q) rfl T.u32 rfl T.z32 (fun _ hw j v hj=>by rw [Jar,Nat.zero_add];exact snapK hw _ _ (hb7 j v hj))) (WL.focus (ow':=baseA h3++((baseA k1++(rowR lla llc ll::ll.map tgA))++(baseA h5++[rowAt xa xc (f.x.take n).reverse,rowAt ya yc (f.n.take n).reverse,rowAt za zc (f.o.take n).reverse]))) (pmC [(baseA k1++(rowR lla llc ll::ll.map tgA)),baseA h5,baseA h3,[rowAt xa xc (f.x.take n).reverse,rowAt ya yc (f.n.take n).reverse,rowAt za zc (f.o.take n).reverse]] [2,0,1,3]) ?_)))))))))
 refine WL.cT (ι:=BaseG × Option Addr × Nat × List TG) (vs:=[ptr ph3,cgV q,.int .i64 (-1)]) (vv:=fun z=>.tuple #[.slice z.2.1 z.2.2.2.length z.2.2.1,.int .i64 0]) (pp:=fun z=>Str cmpR (z.2.2.2.map TG.l)∧(∀ r,r∈z.2.2.2.map TG.l↔Sol (FFs (Jd6 (mfL (f.o.take n).reverse n) (mfL (f.n.take n).reverse n) (mfL (f.x.take n).reverse n)) none) q.cl (nV q.cl) r)∧z.2.2.2.length≤1048576) (baseA h3) (AA:=fun z=>baseA z.1++(rowR z.2.1 z.2.2.1 z.2.2.2::z.2.2.2.map tgA)) rfl (fun w' hw' hH=>by
  have h9:=Ji7 h3 _ _ bh3 (by omega) Jfz q hv.cs hv none (fun l hl=>by cases hl) (Jlj (Nat.le_trans bh3.fk (by omega)) hmsm) w1 w' (snapK hw') (snapB hw') hN hC hrq hH
  rw [hph3] at h9
  exact h9.mono (fun en w'' ⟨z,h1,⟨_,h2,h3,h5⟩,h4⟩=>⟨z,h1,⟨h2,h3,h5⟩,h4⟩)) ?_
 rintro ⟨k3,lma,lmc,lm⟩ ⟨slm,elm,zlm⟩
 dsimp only at slm elm zlm
 refine Zm rfl (Zv (OV.extract rfl rfl) (Zv (OV.extract rfl rfl) (Za rfl (Za rfl (Nn (Csr (Zm rfl (Zv (OV.ai (cs:=cgC q) rfl T.u32 rfl T.z32 (fun _ hw j v hj=>by rw [Jar,Nat.zero_add];exact snapK hw _ _ (hb7 j v hj))) (WL.focus (ow':=baseA h5++((baseA k3++(rowR lma lmc lm::lm.map tgA))++((baseA k1++(rowR lla llc ll::ll.map tgA))++[rowAt xa xc (f.x.take n).reverse,rowAt ya yc (f.n.take n).reverse,rowAt za zc (f.o.take n).reverse]))) (pmC [(baseA k3++(rowR lma lmc lm::lm.map tgA)),(baseA k1++(rowR lla llc ll::ll.map tgA)),baseA h5,[rowAt xa xc (f.x.take n).reverse,rowAt ya yc (f.n.take n).reverse,rowAt za zc (f.o.take n).reverse]] [2,0,1,3]) ?_)))))))))
 refine WL.cT (ι:=BaseG × Option Addr × Nat × List TG) (vs:=[ptr ph2,cgV q,.int .i64 (-1)]) (vv:=fun z=>.tuple #[.slice z.2.1 z.2.2.2.length z.2.2.1,.int .i64 0]) (pp:=fun z=>Str cmpR (z.2.2.2.map TG.l)∧(∀ r,r∈z.2.2.2.map TG.l↔Sol (FFs (turnF (Jdj (Jd6 (mfL f.o n) (mfL f.n n) (mfL f.x n)) (mfL ys n))) none) q.cl (nV q.cl) r)∧z.2.2.2.length≤1048576) (baseA h5) (AA:=fun z=>baseA z.1++(rowR z.2.1 z.2.2.1 z.2.2.2::z.2.2.2.map tgA)) rfl (fun w' hw' hH=>by
  have h9:=Ji7 h5 _ _ bh5 (by omega) (facts_turn (facts_add Jfz _)) q hv.cs hv none (fun l hl=>by cases hl) (Jlj (Nat.le_trans bh5.fk (by omega)) hmsm) w1 w' (snapK hw') (snapB hw') hN hC hrq hH
  rw [hph5] at h9
  exact h9.mono (fun en w'' ⟨z,h1,⟨_,h2,h3,h5⟩,h4⟩=>⟨z,h1,⟨h2,h3,h5⟩,h4⟩)) ?_
 rintro ⟨k5,lka,lkc,lk⟩ ⟨slk,elk,zlk⟩
 dsimp only at slk elk zlk
 refine Zm rfl (Zv (OV.extract rfl rfl) (Zv (OV.extract rfl rfl) (Za rfl (Za rfl (Nn (Cs (Cs ?_)))))))
 obtain ⟨hlm,hlk⟩:=more_ok (c:=q.cl) (n:=nV q.cl) (fun x=>rev_mem) (fun x=>rev_mem) sll slm ell elm elk
 have hn72:=hv.nV72
 have hll:∀ y∈ll,y.l.length=nV q.cl:=fun y hy=>((ell _).1 (List.mem_map.2 ⟨y,hy,rfl⟩)).len
 have hkl:∀ y∈lk,y.l.length=nV q.cl:=fun y hy=>((elk _).1 (List.mem_map.2 ⟨y,hy,rfl⟩)).len
 have hkc:∀ y∈lk,∀ t∈y.l,Jcr t=true:=fun y hy=>sol_const hv (fun i x hx=>by
  obtain ⟨m,hm,_⟩:=mem_sel.1 hx
  exact facts_turn (facts_add Jfz _) _ hm) ((elk _).1 (List.mem_map.2 ⟨y,hy,rfl⟩))
 have hlls:ll.length≤1099511627776:=by omega
 have hlks:lk.length≤1099511627776:=by omega
 refine Cr (Zm rfl (Zv ((OV.gu rfl rfl).cast (u:=.bool false) rfl) (Zm rfl (WL.known (t:=87) (b:=false) rfl (by rfl) ?_))))
 refine Zg rfl rfl rfl (Zm rfl (Zg rfl rfl rfl (Zv ((OV.gu rfl rfl).cast (u:=.bool false) rfl) (Zv (OV.aj rfl rfl) (Zm rfl (WL.known (t:=91) (b:=false) rfl (by rfl) ?_))))))
 refine Zg rfl rfl rfl (Zm rfl (Zg rfl rfl rfl (Zv ((OV.gu rfl rfl).cast (u:=.bool false) rfl) (Zv (OV.aj rfl rfl) (Zm rfl (WL.known (t:=95) (b:=false) rfl (by rfl) ?_))))))
 refine Zg rfl rfl rfl (Zm rfl (Zg rfl rfl rfl (Zm rfl (Zg rfl rfl rfl (WL.c0 (v:=.bool true) (vs:=[.slice lla ll.length llc,.slice lma lm.length lmc]) (fun w' hw'=>rows_law ll lm lla lma llc lmc hlm hlls (fun y hy=>by rw [hll y hy];omega) w' (RTG.of_items (c:=llc) (show Sat w (fun _=>False) (fun b=>b<w1.heap.size∧∀ i∈([]:List Hw.Item),¬ i.D b) w1 (((baseA k5++(rowR lka lkc lk::lk.map tgA))++((baseA k3++(rowR lma lmc lm::lm.map tgA))++((baseA k1++(rowR lla llc ll::ll.map tgA))++[rowAt xa xc (f.x.take n).reverse,rowAt ya yc (f.n.take n).reverse,rowAt za zc (f.o.take n).reverse])))) w' from hw') (List.mem_append_right _ (List.mem_append_right _ (List.mem_append_left _ (List.mem_append_right _ (.head _))))) (fun y hy=>List.mem_append_right _ (List.mem_append_right _ (List.mem_append_left _ (List.mem_append_right _ (.tail _ (List.mem_map.2 ⟨y,hy,rfl⟩))))))) (RTG.of_items (c:=lmc) (show Sat w (fun _=>False) (fun b=>b<w1.heap.size∧∀ i∈([]:List Hw.Item),¬ i.D b) w1 (((baseA k5++(rowR lka lkc lk::lk.map tgA))++((baseA k3++(rowR lma lmc lm::lm.map tgA))++((baseA k1++(rowR lla llc ll::ll.map tgA))++[rowAt xa xc (f.x.take n).reverse,rowAt ya yc (f.n.take n).reverse,rowAt za zc (f.o.take n).reverse])))) w' from hw') (List.mem_append_right _ (List.mem_append_left _ (List.mem_append_right _ (.head _)))) (fun y hy=>List.mem_append_right _ (List.mem_append_left _ (List.mem_append_right _ (.tail _ (List.mem_map.2 ⟨y,hy,rfl⟩))))))) ?_)))))
 refine Zg rfl rfl rfl (Zv (OV.not rfl) (Zv (OV.aj rfl rfl) (Zm rfl (WL.known (t:=101) (b:=false) rfl (by rfl) ?_))))
 refine Zg rfl rfl rfl (Zm rfl (Zg rfl rfl rfl (Zv (OV.ai (cs:=cgC q) rfl T.u32 rfl T.z32 (fun _ hw j v hj=>by rw [Jar,Nat.zero_add];exact snapK hw _ _ (hb7 j v hj))) (Zg rfl rfl rfl (WL.c0 (v:=.int .i64 (nV q.cl:Nat)) (vs:=[cgV q]) (fun w' hw'=>cvars_calls q hv.cs w' (hrq.keeps (snapK hw'))) ?_)))))
 refine Zg rfl rfl rfl (WL.c0 (v:=.bool true) (vs:=[.slice lka lk.length lkc,.int .i64 (nV q.cl:Nat)]) (fun w' hw'=>rises_law lk lka lkc slk hlks (nV q.cl) (by omega) hkl hkc w' (RTG.of_items (c:=lkc) (show Sat w (fun _=>False) (fun b=>b<w1.heap.size∧∀ i∈([]:List Hw.Item),¬ i.D b) w1 (((baseA k5++(rowR lka lkc lk::lk.map tgA))++((baseA k3++(rowR lma lmc lm::lm.map tgA))++((baseA k1++(rowR lla llc ll::ll.map tgA))++[rowAt xa xc (f.x.take n).reverse,rowAt ya yc (f.n.take n).reverse,rowAt za zc (f.o.take n).reverse])))) w' from hw') (List.mem_append_left _ (List.mem_append_right _ (.head _))) (fun y hy=>List.mem_append_left _ (List.mem_append_right _ (.tail _ (List.mem_map.2 ⟨y,hy,rfl⟩)))))) ?_)
 refine Zg rfl rfl rfl (Zv (OV.not rfl) (Zv (OV.aj rfl rfl) (Nn (WC.bw (show _=some (Value.bool false) from by rfl) ?_))))
 refine Ck (Xn (Cs (Csr (Za rfl (Nn (Cb ?_))))))
 refine WC.cg (fun (i:Nat)=>[(12,.slice lla ll.length llc),(16,.slice lka lk.length lkc),(18,.int .i64 (i:Int))])
   (fun i w'=>i≤ll.length∧Sat w (fun _=>False) (fun b=>b<w1.heap.size∧∀ i∈([]:List Hw.Item),¬ i.D b) w1 (((baseA k5++(rowR lka lkc lk::lk.map tgA))++((baseA k3++(rowR lma lmc lm::lm.map tgA))++((baseA k1++(rowR lla llc ll::ll.map tgA))++[rowAt xa xc (f.x.take n).reverse,rowAt ya yc (f.n.take n).reverse,rowAt za zc (f.o.take n).reverse])))) w')
   (fun i=>ll.length - i) 0 Y3 (fun w' hw=>⟨by omega,hw⟩) ?_
 intro i
 refine WC.pure (fun hi=>?_)
 refine Cs (Csr (Zm rfl (Zm rfl (Zv (OV.ae rfl T.u39) (Zv (OV.cn rfl rfl) (Nn ?_))))))
 refine Cc rfl (fun c111=>?_) (fun c111=>?_)
 ·refine Ck (Xn (Cs (Cb (Csr (Zm rfl (Zm rfl (Zm rfl ?_)))))))
  refine WL.ji (fun w' hw'=>((RTG.of_items (c:=llc) (show Sat w (fun _=>False) (fun b=>b<w1.heap.size∧∀ i∈([]:List Hw.Item),¬ i.D b) w1 (((baseA k5++(rowR lka lkc lk::lk.map tgA))++((baseA k3++(rowR lma lmc lm::lm.map tgA))++((baseA k1++(rowR lla llc ll::ll.map tgA))++[rowAt xa xc (f.x.take n).reverse,rowAt ya yc (f.n.take n).reverse,rowAt za zc (f.o.take n).reverse])))) w' from hw') (List.mem_append_right _ (List.mem_append_right _ (List.mem_append_left _ (List.mem_append_right _ (.head _))))) (fun y hy=>List.mem_append_right _ (List.mem_append_right _ (List.mem_append_left _ (List.mem_append_right _ (.tail _ (List.mem_map.2 ⟨y,hy,rfl⟩))))))).get (i:=i) (by omega)).imp (fun q8 h=>h.imp (fun y h2=>(⟨h2.1,h2.2.1,h2.2.2.1⟩:lla=some q8∧ll[i]?=some y∧y∈ll)))) (fun hqq=>?_)
  obtain ⟨q8,y,hq,hy,hym⟩:=hqq
  refine Zv ((OV.ad (show _=some (Value.slice (some q8) ll.length llc) by rw [← hq];rfl) rfl T.u39 T.z27 (by omega)).cast (u:=.pointer (some (q8.add i))) (by rw [Int.toNat_natCast,Nat.mul_one])) (Zv (OV.ah (v:=tgV y) rfl T.u27 rfl (fun w' hw'=>(RTG.of_items (c:=llc) (show Sat w (fun _=>False) (fun b=>b<w1.heap.size∧∀ i∈([]:List Hw.Item),¬ i.D b) w1 (((baseA k5++(rowR lka lkc lk::lk.map tgA))++((baseA k3++(rowR lma lmc lm::lm.map tgA))++((baseA k1++(rowR lla llc ll::ll.map tgA))++[rowAt xa xc (f.x.take n).reverse,rowAt ya yc (f.n.take n).reverse,rowAt za zc (f.o.take n).reverse])))) w' from hw') (List.mem_append_right _ (List.mem_append_right _ (List.mem_append_left _ (List.mem_append_right _ (.head _))))) (fun y hy=>List.mem_append_right _ (List.mem_append_right _ (List.mem_append_left _ (List.mem_append_right _ (.tail _ (List.mem_map.2 ⟨y,hy,rfl⟩))))))).at_ _ hq i y hy)) (WL.c0 (v:=.bool true) (vs:=[.slice lka lk.length lkc,tgV y]) (fun w' hw'=>has_law lk lka lkc slk hlks (nV q.cl) (by omega) hkl y.l y.a y.c (hll y hym) (hlk _ (List.mem_map.2 ⟨y,hym,rfl⟩)) w' (RTG.of_items (c:=lkc) (show Sat w (fun _=>False) (fun b=>b<w1.heap.size∧∀ i∈([]:List Hw.Item),¬ i.D b) w1 (((baseA k5++(rowR lka lkc lk::lk.map tgA))++((baseA k3++(rowR lma lmc lm::lm.map tgA))++((baseA k1++(rowR lla llc ll::ll.map tgA))++[rowAt xa xc (f.x.take n).reverse,rowAt ya yc (f.n.take n).reverse,rowAt za zc (f.o.take n).reverse])))) w' from hw') (List.mem_append_left _ (List.mem_append_right _ (.head _))) (fun y hy=>List.mem_append_left _ (List.mem_append_right _ (.tail _ (List.mem_map.2 ⟨y,hy,rfl⟩))))) ((RTG.of_items (c:=llc) (show Sat w (fun _=>False) (fun b=>b<w1.heap.size∧∀ i∈([]:List Hw.Item),¬ i.D b) w1 (((baseA k5++(rowR lka lkc lk::lk.map tgA))++((baseA k3++(rowR lma lmc lm::lm.map tgA))++((baseA k1++(rowR lla llc ll::ll.map tgA))++[rowAt xa xc (f.x.take n).reverse,rowAt ya yc (f.n.take n).reverse,rowAt za zc (f.o.take n).reverse])))) w' from hw') (List.mem_append_right _ (List.mem_append_right _ (List.mem_append_left _ (List.mem_append_right _ (.head _))))) (fun y hy=>List.mem_append_right _ (List.mem_append_right _ (List.mem_append_left _ (List.mem_append_right _ (.tail _ (List.mem_map.2 ⟨y,hy,rfl⟩))))))).args y hym)) ?_))
  refine Zv (OV.not rfl) (Nn (WC.bw (show _=some (Value.bool false) from by rfl) ?_))
  refine Ck (Xb (Xn (Cr (Zm rfl (Zv (OV.bk (j:=1) rfl rfl (by omega)) (Za rfl (Nl ?_)))))))
  exact WX.bi (i+1) Y3 (fun w' hw=>⟨by omega,hw⟩) (by show ll.length - (i+1)<ll.length - i;omega)
 refine Ce (Xe (Xe (Xh (Xn (Csr (Za rfl (Nn (WC.az ?_))))))))
 exact WX.ret1 rfl rfl rfl (fun w' hw=>⟨rfl,hw.fr⟩)
end Go.Proofs.YtgebaodagaecmaaGreatDoor
