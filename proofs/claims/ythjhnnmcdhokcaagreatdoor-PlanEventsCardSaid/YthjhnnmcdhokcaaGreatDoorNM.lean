/- Part 13 of the proof: an abstract interpreter for the code, contracts of the functions, and plain facts; the conditions are those typed. -/
import Derived.Test.YthjhnnmcdhokcaaGreatDoorNH
set_option linter.unusedSectionVars false
set_option linter.unusedVariables false
set_option linter.unusedSimpArgs false
namespace Go.Proofs
open Go Go.AI
set_option maxRecDepth 100000
def XO (l:List dZ) (q:List (Int×Int)):Prop:=(l=[qn]/\q=[(20,23),(50,53)])\/(l=[qm]/\q=[(23,26),(53,56)])\/(l=[qn,qm]/\q=[(20,23),(50,53),(23,26),(53,56)])
set_option maxHeartbeats 8000000 in
theorem Pl (b:Nat) {l:List dZ} {q:List (Int×Int)} (h:XO l q):jA Tryz.prog Yy 162 [.ref [dl l],.ref [cK b dD],.ref [.int .i64 0]] q:=by
  refine jA.of Tryz.func162 rfl aK bj (ah rfl) rfl ?_;intro F n m y J Jx hY;have kp:KP pQ := .mk;rcases h with ⟨rfl,rfl⟩ | ⟨rfl,rfl⟩ | ⟨rfl,rfl⟩
  all_goals
    repeat' first
      | refine ir.unroll 5 ?_
      | refine SD hY af 13 pQ aK aK aK ?_
      | refine Wx.done rfl ?_
      | refine Wx.step hY af ?_
      | refine QM rfl hY af kp ?_
      | ((conv=>whnf); first
         | refine cZ ?_
         | refine cY ?_
         | refine aa aK ?_
         | refine SJ.intro ?_ ?_
         | refine aa bt (ae _ (aa rfl ?_))
         | (refine ae _ (aa rfl (aa rfl (fun t a=>?_))); subst a; refine aa ?_ ?_)
         | refine aj ?_)
    all_goals first | exact iL.mk (aj rfl) (bw rfl) | exact iL.mk (bw rfl) (aj rfl)
open Go Go.AI
set_option maxRecDepth 100000
set_option maxHeartbeats 16000000
theorem M5 (b:Nat) {l:List dZ} {q:List (Int×Int)} (h:XO l q) {x:Int} (hx:x=20\/x=23\/x=50\/x=53):ar Tryz.prog 37 [cK b dD,dl l,.int .i64 0,.int .i64 x] (.int .i64 ((q.filter fun y=>decide (y.1<=x)&&decide (x<y.2)).length:Nat)):=by
 have c1:=tK b dD l 0;have a:=Pl b h;refine aM KV Tryz.func37 ?_;intro F e w0 m0 hG d h1 kp;rcases h with ⟨rfl,rfl⟩ | ⟨rfl,rfl⟩ | ⟨rfl,rfl⟩
 all_goals
  rcases hx with rfl | rfl | rfl | rfl
 all_goals
  repeat' first
   | refine il hG (bH bt h1) Yy [9,7] rfl a (fun _=>rfl) aK bt rfl ?_
   | refine QE [] rfl a8 af kp ?_
   |((conv=>whnf); first
     | refine cZ ?_
     | refine cY ?_
     | refine aa aK ?_
     | refine ae _ (aa c1 ?_)
     | intro i n2 m2 f c
     | refine aa LE ?_
     | refine aj ?_)
  all_goals exact Ez
theorem Us (b:Nat) {l:List dZ} {q:List (Int×Int)} {t:List Int} (h:XO l q) (d:Um (q.map (·.1)) t):ar Tryz.prog 36 [cK b dD,dl l,.int .i64 0] (bB t):=by
 have c1:=tK b dD l 0;have f:=Pl b h;have c2:=fun b cap=>XQ b cap d;refine rI af Tryz.func36 rfl aK bj (ah rfl) ?_;intro F n w0 m0 hG i h1 c;have kp:KP yc := .mk;rcases h with ⟨rfl,rfl⟩ | ⟨rfl,rfl⟩ | ⟨rfl,rfl⟩
 all_goals
  obtain ⟨e,rfl⟩ | ⟨e,rfl⟩ | ⟨e,rfl⟩:=d
  all_goals first | cases e | skip
 all_goals
  iterate 3
   refine jL fun Z a=>?_
   repeat' first
    | refine il hG (bH bt h1) Yy [7] rfl f (fun _=>rfl) aK bt rfl ?_
    | refine QE [] rfl a8 af kp ?_
    |((conv=>whnf); first
      | refine cZ ?_
      | refine cY ?_
      | refine aa aK ?_
      | refine aa (ah rfl) ?_
      | refine ae _ (aa c1 ?_)
      | intro p n2 m2 o m
      | refine aa LE ?_
      | refine aj ?_)
   conv=>whnf
   refine a _ ?_;clear a Z
  refine aI.le (s':=⟨[(7,.loc 7 0)],[(7,[.sl (.id 1007000) 1 _])]⟩) (LE) ?_;refine aI.unfrz c 1007000 7 0 rfl rfl rfl rfl rfl rfl rfl rfl (fun b1 cap=>?_)
  conv=>whnf
  refine gf 1007000 5000000 (g := .row b1 cap) aK rfl ?_;have j:=c2 b1 cap;refine jL fun Z a=>?_
  repeat' first | refine QE [20] rfl hG af kp ?_ | ((conv=>whnf); first | refine cZ ?_ | refine cY ?_ | refine aa aK ?_ | refine xE j ?_)
  conv=>whnf
  refine a _ ?_;clear a Z
  conv=>whnf
  refine nY hG 5000000 6 rfl rfl rfl ?_
  conv=>whnf
  refine bv ?_;exact Ez
theorem ZV {l:List dZ} (h:l=[qn]\/l=[qm]\/l=[qn,qm]):lR Tryz.prog 32 [5006000] [] [.me .sl 5006000 l.length [],.clo 34 [.ref (bR gh)]] [(5006000,.me .arr 5006000 9 (l.map bL))] (fun v L=>v=dl l/\L=[]):=by
 have d:ar Tryz.prog 34 [.agg (bL qn),.ref (bR gh)] (.bool false):=dK yd Tryz.func34;have e:ar Tryz.prog 34 [.agg (bL qm),.ref (bR gh)] (.bool false):=dK yd Tryz.func34
 have b:bW Tryz.prog 72 [7000000] [] [.me .sl 7000000 l.length [],.clo 34 [.ref (bR gh)]] [(7000000,.me .arr 7000000 9 (l.map bL))] (.int .i64 (-1)) [(7000000,.me .arr 7000000 9 (l.map bL))]:=by
  let es:List Nat:=[]
  rcases h with rfl | rfl | rfl
  all_goals exact jU lL Tryz.func72
 refine lR.ofB af Tryz.func32 rfl aK bj (ah rfl) ?_;intro F c w0 m0 hG a h1;have kp:KP yf := .mk;rcases h with rfl | rfl | rfl
 all_goals
  refine gf 5006000 7000000 aK rfl ?_
  conv=>whnf
  repeat' first
   |(refine aI.frz [.tmp 4] ?_; conv=>whnf
     refine aI.ret hG af ?_;exact gj.mk (aj rfl) (ae _ (ae [] (aa (aa rfl rfl) (aa (aj (az rfl)) (aa rfl rfl))))))
   | refine QE [10] rfl hG af kp ?_
   |((conv=>whnf); first | refine cZ ?_ | refine cY ?_ | refine aa aK ?_ | refine xE b ?_ | refine aj ?_)
end Go.Proofs
