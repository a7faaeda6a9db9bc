import Derived.Test.YtmonnlkagniolaaGreatKTy
import Derived.Test.YtmonnlkagniolaaGreatPbV
import Derived.Test.YtmonnlkagniolaaGreatPbV
import Derived.Test.YtmonnlkagniolaaGreatKMuUm
set_option linter.unusedVariables false
set_option linter.unusedSimpArgs false
set_option maxRecDepth 100000
namespace Go.Proofs.YtmonnlkagniolaaGreat
open Go Go.Pb Go.RowKit
def rd(x0:List bg)(K0:Unit->Bool):Nat->Int->Bool
 |0,x3_=>K0 ()
 |m+1,x3_=>
  if(decide (40 < (((ix x0 x3_).Name).length:Int)))then
   false
  else
  rd x0 K0 m (x3_+1)
def ep(x0:List bg):Bool:=
 if(decide (16 < (x0.length:Int)))then
  false
 else
 rd x0 (λ(_:Unit)=>
  true) (Int.toNat ((x0.length:Int)-0)) 0
def sf(x0:bt)(K0:Unit->Bool):Nat->Int->Bool
 |0,x3_=>K0 ()
 |m+1,x3_=>
  if((decide (40 < (((ix x0.Body x3_).Index).length:Int)))||(decide (40 < (((ix x0.Body x3_).Value).length:Int))))then
   false
  else
  sf x0 K0 m (x3_+1)
def ab4(x0:bt):Bool:=
 if(((decide (40 < (x0.Name.length:Int)))||(!(ep x0.Params)))||(decide (16 < (x0.Body.length:Int))))then
  false
 else
 sf x0 (λ(_:Unit)=>
  true) (Int.toNat ((x0.Body.length:Int)-0)) 0
def oc(x0:af)(K0:Unit->Bool):Nat->Int->Bool
 |0,x3_=>K0 ()
 |m+1,x3_=>
  if((decide (40 < (((ix x0.Headers x3_).Name).length:Int)))||(!(ep ((ix x0.Headers x3_).Fields))))then
   false
  else
  oc x0 K0 m (x3_+1)
def nt(x0:af)(K2:Unit->Bool):Nat->Int->Bool
 |0,x4_=>K2 ()
 |m+1,x4_=>
  if(decide (40 < (((ix x0.Registers x4_).Name).length:Int)))then
   false
  else
  nt x0 K2 m (x4_+1)
def oe(x0:af)(K4:Unit->Bool):Nat->Int->Bool
 |0,x5_=>K4 ()
 |m+1,x5_=>
  LET (ab4 (ix x0.Actions x5_)) λy144=>
  if(!y144)then
   false
  else
  oe x0 K4 m (x5_+1)
def pp(x0:af)(K6:Unit->Bool):Nat->Int->Bool
 |0,x6_=>K6 ()
 |m+1,x6_=>
  if((((decide (40 < (((ix x0.Tables x6_).Name).length:Int)))||(decide (10 < (((ix x0.Tables x6_).Keys).length:Int))))||(decide (24 < (((ix x0.Tables x6_).Actions).length:Int))))||(decide (10 < ((((ix x0.Tables x6_).Default).Args).length:Int))))then
   false
  else
  pp x0 K6 m (x6_+1)
def ro(x0:af)(K8:Unit->Bool):Nat->Int->Bool
 |0,x8_=>K8 ()
 |m+1,x8_=>
  if(((decide (40 < (((ix x0.States x8_).Name).length:Int)))||(decide (8 < (((ix x0.States x8_).Extract).length:Int))))||(decide (16 < (((ix x0.States x8_).Cases).length:Int))))then
   false
  else
  ro x0 K8 m (x8_+1)
def pf(x0:af):Bool:=
 if((((((((decide (40 < (x0.Name.length:Int)))||(decide (12 < (x0.Headers.length:Int))))||(!(ep x0.Metadata)))||(decide (8 < (x0.Registers.length:Int))))||(decide (20 < (x0.Actions.length:Int))))||(decide (16 < (x0.Tables.length:Int))))||(decide (16 < (x0.States.length:Int))))||(decide (16 < (x0.Deparser.length:Int))))then
  false
 else
 oc x0 (λ(_:Unit)=>
  nt x0 (λ(_:Unit)=>
   oe x0 (λ(_:Unit)=>
    pp x0 (λ(_:Unit)=>
     ro x0 (λ(_:Unit)=>
      true) (Int.toNat ((x0.States.length:Int)-0)) 0) (Int.toNat ((x0.Tables.length:Int)-0)) 0) (Int.toNat ((x0.Actions.length:Int)-0)) 0) (Int.toNat ((x0.Registers.length:Int)-0)) 0) (Int.toNat ((x0.Headers.length:Int)-0)) 0
def kj(x0:List ae)(x1:Int)(x2:Int)(rec_:(List ae)->Int->Int->Int)(K0:Int->Int):Nat->Int->Int->Int
 |0,x7_,x8_=>K0 x7_
 |m+1,x7_,x8_=>
  if((decide (x8_ < (x0.length:Int)))&&(decide (x7_<=x1)))then
   if((decide (40 < (((ix x0 x8_).Cond).length:Int)))||(decide (x2=0)))then
    (wr (x1+1))
   else
   LET (rec_ ((ix x0 x8_).Then) (wr (x1-(wr (x7_+1)))) (wr (x2-1))) λy111=>
   if(decide ((wr ((wr (x7_+1))+y111))<=x1))then
    LET (rec_ ((ix x0 x8_).Else) (wr (x1-(wr ((wr (x7_+1))+y111)))) (wr (x2-1))) λy115=>
    kj x0 x1 x2 rec_ K0 m (wr ((wr ((wr (x7_+1))+y111))+y115)) (x8_+1)
   else
   kj x0 x1 x2 rec_ K0 m (wr ((wr (x7_+1))+y111)) (x8_+1)
  else
  K0 x7_
def tj(rec_:(List ae)->Int->Int->Int)(x0:List ae)(x1:Int)(x2:Int):Int:=
 kj x0 x1 x2 rec_ (λ(x7_116:Int)=>
  x7_116) (Int.toNat ((x0.length:Int)-0)) 0 0
def pa:Nat->(List ae)->Int->Int->Int
 |0,_,_,_=>default
 |n_+1,x0,x1,x2=>tj (pa n_) x0 x1 x2
def af0(x0:List ae)(x1:Int)(x2:Int):Int:=pa (csl x0+1) x0 x1 x2
def lu(x0:List ae)(x1:Int):Bool:=
 LET (af0 x0 x1 12) λy101=>
 (decide (y101<=x1))
def sx:Bool:=true
def sh(x0:ae)(c0:Int):Bool×Int:=
 (true,(wr (c0+1)))
def wm(x0:List ae):Int:=
 LET (ww (λa_ s_=>sh a_ s_) x0 0) λy104=>
 y104.2
def pn(x0:List ae)(rec_:(List ae)->Int)(K0:Int->Int):Nat->Int->Int->Int
 |0,x3_,x11_=>K0 x3_
 |m+1,x3_,x11_=>
  LET (rec_ ((ix x0 x11_).Then)) λy109=>
  LET (rec_ ((ix x0 x11_).Else)) λy111=>
  pn x0 rec_ K0 m (max (max x3_ y109) y111) (x11_+1)
def rj(rec_:(List ae)->Int)(x0:List ae):Int:=
 if(decide ((x0.length:Int)=0))then
  0
 else
 pn x0 rec_ (λ(x3_112:Int)=>
  (wr (x3_112+1))) (Int.toNat ((x0.length:Int)-0)) 0 0
def oi:Nat->(List ae)->Int
 |0,_=>default
 |n_+1,x0=>rj (oi n_) x0
def yd(x0:List ae):Int:=oi (csl x0+1) x0
def fg(x0:Int):Int:=
 LET (λ(x4_104:Bool)=>
  if x4_104 then
   0
  else
  LET (λ(x9_109:Bool)=>
   if x9_109 then
    1
   else
   LET (λ(x14_118:Bool)=>
    if x14_118 then
     2
    else
    if(decide (x0=17))then
     3
    else
    (-1)) λk118=>
   if(decide (x0=9))then
    k118 (decide (x0=9))
   else
   if(decide (x0=10))then
    k118 (decide (x0=10))
   else
   if(decide (x0=11))then
    k118 (decide (x0=11))
   else
   if(decide (x0=12))then
    k118 (decide (x0=12))
   else
   if(decide (x0=13))then
    k118 (decide (x0=13))
   else
   if(decide (x0=14))then
    k118 (decide (x0=14))
   else
   if(decide (x0=15))then
    k118 (decide (x0=15))
   else
   k118 (decide (x0=16))) λk109=>
  if(decide (x0=5))then
   k109 (decide (x0=5))
  else
  if(decide (x0=6))then
   k109 (decide (x0=6))
  else
  if(decide (x0=7))then
   k109 (decide (x0=7))
  else
  k109 (decide (x0=8))) λk104=>
 if(decide (x0=1))then
  k104 (decide (x0=1))
 else
 if(decide (x0=2))then
  k104 (decide (x0=2))
 else
 if(decide (x0=3))then
  k104 (decide (x0=3))
 else
 k104 (decide (x0=4))
def pz(x0:Int):Int×Int:=
 if((decide (x0 < 1))||(decide (32 < x0)))then
  (0,10)
 else
 (x0,0)
def ov(x0:List Int)(K0:Unit->Bool):Nat->Int->Bool
 |0,x7_=>K0 ()
 |m+1,x7_=>
  if((decide ((ix x0 x7_) < 1))||(decide (32 < (ix x0 x7_))))then
   false
  else
  ov x0 K0 m (x7_+1)
def rt(x0:List Int):Bool:=
 ov x0 (λ(_:Unit)=>
  true) (Int.toNat ((x0.length:Int)-0)) 0
def qe(x0:Int):(BitVec 32):=
 LET (rt ([x0]:List Int)) λy102=>
 if(!y102)then
  0#32
 else
 (4294967295#32>>>(wr (32-x0)).toNat)
def na(x0:bf)(x1:Int)(x2:Int):bg×Bool:=
 LET (λ(x8_115:List bg)=>
  if((decide (x2 < 0))||(decide ((x8_115.length:Int)<=x2)))then
   (({Name:=([]:List UInt8),Width:=0}:bg),false)
  else
  ((ix x8_115 x2),true)) λk115=>
 if(!decide (x1=(-1)))then
  if((decide (x1 < 0))||(decide ((x0.Program.Headers.length:Int)<=x1)))then
   (({Name:=([]:List UInt8),Width:=0}:bg),false)
  else
  k115 ((ix x0.Program.Headers x1).Fields)
 else
 k115 x0.Program.Metadata
def jo(x0:bf)(x1:ai):Int×Int:=
 if(decide (x1.Op=1))then
  LET (pz x1.W) λy102=>
  if((decide (y102.2=0))&&((decide (x1.N < 0))||(decide (((qe y102.1).toNat:Int) < x1.N))))then
   (0,9)
  else
  (y102.1,y102.2)
 else
 if(decide (x1.Op=2))then
  LET (na x0 x1.N x1.W) λy108=>
  if(!y108.2)then
   (0,8)
  else
  LET (pz y108.1.Width) λy114=>
  (y114.1,y114.2)
 else
 if(decide (x1.Op=3))then
  if((decide (x1.N < 0))||(decide ((x0.Params.length:Int)<=x1.N)))then
   (0,8)
  else
  LET (pz ((ix x0.Params x1.N).Width)) λy121=>
  (y121.1,y121.2)
 else
 if((decide (x1.N < 0))||(decide ((x0.Program.Headers.length:Int)<=x1.N)))then
  (0,8)
 else
 (1,0)
def ir(x0:ai)(x1:List Int):Int×Int:=
 LET (λ(x10_102:Bool)=>
  if x10_102 then
   if((decide (x0.N < 0))||(decide (31 < x0.N)))then
    (0,9)
   else
   LET (fg x0.Op) λy106=>
   if((decide (y106=2))&&(!decide ((ix x1 0)=(ix x1 1))))then
    (0,10)
   else
   if((decide (x0.Op=15))||(decide (x0.Op=16)))then
    (1,0)
   else
   ((ix x1 0),0)
  else
  if(decide (x0.Op=8))then
   if(decide (x0.N < 0))then
    (0,9)
   else
   LET (pz x0.W) λy116=>
   if((!decide (y116.2=0))||(decide ((wr ((ix x1 0)-x0.W)) < x0.N)))then
    (0,10)
   else
   (x0.W,0)
  else
  if(decide (x0.Op=14))then
   LET (pz (wr ((ix x1 0)+(ix x1 1)))) λy123=>
   (y123.1,y123.2)
  else
  if(decide (x0.Op=17))then
   if((!decide ((ix x1 0)=1))||(!decide ((ix x1 1)=(ix x1 2))))then
    (0,10)
   else
   ((ix x1 1),0)
  else
  LET (fg x0.Op) λy131=>
  if((decide (y131=2))&&(!decide ((ix x1 0)=(ix x1 1))))then
   (0,10)
  else
  if((decide (x0.Op=15))||(decide (x0.Op=16)))then
   (1,0)
  else
  ((ix x1 0),0)) λk102=>
 if(decide (x0.Op=6))then
  k102 (decide (x0.Op=6))
 else
 k102 (decide (x0.Op=7))
def dj(x0:bf)(x1:List ai)(rec_:bf->(List ai)->Int->(Int×Int×Int))(K1:Int->(List Int)->(Int×Int×Int)):Nat->Int->Int->(List Int)->(Int×Int×Int)
 |0,x7_,x44_,zE109=>K1 x7_ zE109
 |m+1,x7_,x44_,zE109=>
  LET (rec_ x0 x1 x7_) λy112=>
  if(!decide (y112.2.2=0))then
   (0,0,y112.2.2)
  else
  dj x0 x1 rec_ K1 m y112.2.1 (x44_+1) (zE109.set x44_.toNat y112.1)
def fa(rec_:bf->(List ai)->Int->(Int×Int×Int))(x0:bf)(x1:List ai)(x2:Int):Int×Int×Int:=
 if(decide ((x1.length:Int)<=x2))then
  (0,0,3)
 else
 LET (fg ((ix x1 x2).Op)) λy103=>
 if(decide (y103 < 0))then
  (0,0,11)
 else
 if(decide (y103=0))then
  LET (jo x0 (ix x1 x2)) λy107=>
  (y107.1,(wr (x2+1)),y107.2)
 else
 dj x0 x1 rec_ (λ(x7_116:Int)(zE109_116:List Int)=>
  LET (ir (ix x1 x2) zE109_116) λy118=>
  (y118.1,x7_116,y118.2)) (Int.toNat (y103-0)) (wr (x2+1)) 0 ([0,0,0]:List Int)
def dp:Nat->bf->(List ai)->Int->(Int×Int×Int)
 |0,x0,x1,x2=>(0,0,1)
 |n_+1,x0,x1,x2=>fa (dp n_) x0 x1 x2
def di(x0:bf)(x1:List ai)(x2:Int):Int×Int×Int:=dp ((x1.length-x2.toNat)+1) x0 x1 x2
def pr(x0:List ai)(x1:bf):Int×Int:=
 if(decide (24 < (x0.length:Int)))then
  (0,12)
 else
 LET (di x1 x0 0) λy102=>
 if(!decide (y102.2.2=0))then
  (0,y102.2.2)
 else
 if(decide (y102.2.1 < (x0.length:Int)))then
  (0,4)
 else
 (y102.1,0)
def nu(x1:ae)(x2:List Int)(K1:Unit->Int):Nat->Int->Int
 |0,x29_=>K1 ()
 |m+1,x29_=>
  if(decide ((ix x2 x29_)=x1.Table))then
   7
  else
  nu x1 x2 K1 m (x29_+1)
def tk(x0:af)(x1:ae)(x2:List Int):Int:=
 LET (λ(x13_102:Bool)=>
  if x13_102 then
   if((decide (x1.Table < 0))||(decide ((x0.Tables.length:Int)<=x1.Table)))then
    8
   else
   nu x1 x2 (λ(_:Unit)=>
    if((decide (x1.Kind=1))&&(decide (0 < (wr ((x1.Then.length:Int)+(x1.Else.length:Int))))))then
     5
    else
    0) (Int.toNat ((x2.length:Int)-0)) 0
  else
  if(decide (x1.Kind=2))then
   LET (pr x1.Cond ({Program:=x0,Params:=([]:List bg)}:bf)) λy118=>
   if(!decide (y118.2=0))then
    y118.2
   else
   if(!decide (y118.1=1))then
    10
   else
   0
  else
  11) λk102=>
 if(decide (x1.Kind=1))then
  k102 (decide (x1.Kind=1))
 else
 k102 (decide (x1.Kind=3))
def uq(x0:ae):Bool:=
 ((decide (x0.Kind=1))||(decide (x0.Kind=3)))
def oq(x0:ae)(c0:af)(c1:List Int)(c2:Int)(c3:Int):Bool×(List Int)×Int×Int:=
 LET (tk c0 x0 c1) λy105=>
 if(!decide (y105=0))then
  (false,c1,y105,c3)
 else
 LET (uq x0) λy110=>
 if y110 then
  (true,(c1++([x0.Table]:List Int)),y105,(wr (c3+1)))
 else
 (true,c1,y105,(wr (c3+1)))
def rg(x0:af):Int×Int:=
 LET (wm x0.Control) λy104=>
 if(decide (24 < y104))then
  ((-1),12)
 else
 LET (yd x0.Control) λy108=>
 if(decide (6 < y108))then
  ((-1),14)
 else
 LET (ww (λa_ s_=>oq a_ x0 s_.1 s_.2.1 s_.2.2) x0.Control (([]:List Int),0,0)) λy118=>
 if(!decide (y118.2.2.1=0))then
  (y118.2.2.2,y118.2.2.1)
 else
 (0,0)
def fu(x0:Bool)(c0:List bd)(c1:Int):(List bd):=
 LET (fi c0) λy101=>
 (y101++([({Unit:=c1,Want:=x0}:bd)]:List bd))
def gz(x0:List ae)(x1:List bd)(rec_:(List ae)->(List bd)->(List ay)->(List ay))(K0:(List ay)->(List ay)):Nat->Int->(List ay)->(List ay)
 |0,x13_,zE102=>K0 zE102
 |m+1,x13_,zE102=>
  LET (fi x1) λy110=>
  if(decide (((ix x0 x13_).Kind)=2))then
   LET (kd ((ix x0 x13_).Cond)) λy118=>
   LET (rec_ ((ix x0 x13_).Then) ((λa_=>fu a_ x1 (zE102.length:Int)) true) (zE102++([({Table:=(-1),Cond:=y118,Guards:=y110}:ay)]:List ay))) λy131=>
   LET (rec_ ((ix x0 x13_).Else) ((λa_=>fu a_ x1 (zE102.length:Int)) false) y131) λy135=>
   gz x0 x1 rec_ K0 m (x13_+1) y135
  else
  LET (rec_ ((ix x0 x13_).Then) ((λa_=>fu a_ x1 (zE102.length:Int)) true) (zE102++([({Table:=(ix x0 x13_).Table,Cond:=([]:List ai),Guards:=y110}:ay)]:List ay))) λy147=>
  LET (rec_ ((ix x0 x13_).Else) ((λa_=>fu a_ x1 (zE102.length:Int)) false) y147) λy151=>
  gz x0 x1 rec_ K0 m (x13_+1) y151
def qb(rec_:(List ae)->(List bd)->(List ay)->(List ay))(x0:List ae)(x1:List bd)(c0:List ay):(List ay):=
 gz x0 x1 rec_ (λ(zE102_153:List ay)=>
  zE102_153) (Int.toNat ((x0.length:Int)-0)) 0 c0
def jx:Nat->(List ae)->(List bd)->(List ay)->(List ay)
 |0,x0,x1,c0=>c0
 |n_+1,x0,x1,c0=>qb (jx n_) x0 x1 c0
def wb(x0:List ae)(x1:List bd)(c0:List ay):(List ay):=jx (csl x0+1) x0 x1 c0
def lr(x0:af):(List ay):=
 LET (rg x0) λy101=>
 if(!decide (y101.2=0))then
  ([]:List ay)
 else
 LET (wb x0.Control ([]:List bd) ([]:List ay)) λy110=>
 y110
def se(x0:Int):Bool:=
 (!decide (x0=x0))
def mo(x0:Int)(x1:Int):Int:=
 LET (se x0) λy101=>
 LET (se x1) λy102=>
 if y101 then
  if y102 then
   0
  else
  (-1)
 else
 if y102 then
  1
 else
 if(decide (x0 < x1))then
  (-1)
 else
 if(decide (x1 < x0))then
  1
 else
 0
def pe(x0:List Int)(K0:Unit->Int):Nat->Int->Int
 |0,x8_=>K0 ()
 |m+1,x8_=>
  if(!decide ((ix x0 x8_)=0))then
   (ix x0 x8_)
  else
  pe x0 K0 m (x8_+1)
def ub(x0:List Int):Int:=
 pe x0 (λ(_:Unit)=>
  0) (Int.toNat ((x0.length:Int)-0)) 0
def lw(x0:aa)(x1:aa):Int:=
 LET (mo x0.Header x1.Header) λy101=>
 LET (mo x0.Field x1.Field) λy102=>
 LET (ub ([y101,y102]:List Int)) λy104=>
 y104
def fj(x0:aa)(x1:aa):Int:=
 LET (mo x0.Header x1.Header) λy101=>
 LET (mo x0.Field x1.Field) λy102=>
 LET (ub ([y101,y102]:List Int)) λy104=>
 y104
def lj(l:List aa):List aa:=l.mergeSort λx y=>!decide (lw y x < 0)
def ga(l:List aa):List aa:=l.mergeSort λx y=>!decide (fj y x < 0)
def jt(l:List aa):List aa:=cpt l
def jv(x0:List ai)(K0:(List aa)->(List aa)):Nat->Int->(List aa)->(List aa)
 |0,x8_,zE102=>K0 zE102
 |m+1,x8_,zE102=>
  if(decide (((ix x0 x8_).Op)=2))then
   jv x0 K0 m (x8_+1) (zE102++([({Header:=(ix x0 x8_).N,Field:=(ix x0 x8_).W}:aa)]:List aa))
  else
  jv x0 K0 m (x8_+1) zE102
def mr(x0:List ai):(List aa):=
 jv x0 (λ(zE102_112:List aa)=>
  LET (lj zE102_112) λy113=>
  LET (jt y113) λy115=>
  y115) (Int.toNat ((x0.length:Int)-0)) 0 ([]:List aa)
def en(l:List Int):List Int:=l.mergeSort λx y=>decide (x<=y)
def ky(l:List Int):List Int:=cpt l
def jg(x0:List ai)(K0:(List Int)->(List Int)):Nat->Int->(List Int)->(List Int)
 |0,x8_,zE102=>K0 zE102
 |m+1,x8_,zE102=>
  if(decide (((ix x0 x8_).Op)=4))then
   jg x0 K0 m (x8_+1) (zE102++([(ix x0 x8_).N]:List Int))
  else
  jg x0 K0 m (x8_+1) zE102
def lc(x0:List ai):(List Int):=
 jg x0 (λ(zE102_112:List Int)=>
  LET (en zE102_112) λy113=>
  LET (ky y113) λy115=>
  y115) (Int.toNat ((x0.length:Int)-0)) 0 ([]:List Int)
def gu(x0:Int)(c0:au):au:=
 if(decide (0<=x0))then
  ({p:=c0.p,cells:=(c0.cells++([x0]:List Int))}:au)
 else
 ({p:=c0.p,cells:=c0.cells}:au)
def ln(x0:af)(K0:(List Int)->(List Int)):Nat->Int->(List Int)->(List Int)
 |0,x19_,zE108=>K0 zE108
 |m+1,x19_,zE108=>
  ln x0 K0 m (x19_+1) (zE108.set (0:Int).toNat (wr ((ix zE108 (0:Int))+(((ix x0.Headers x19_).Fields).length:Int))))
def nk(x0:af):(List Int):=
 ln x0 (λ(zE108_123:List Int)=>
  zE108_123) (Int.toNat ((x0.Headers.length:Int)-0)) 0 ([0,(x0.Headers.length:Int),(x0.Metadata.length:Int),(x0.Registers.length:Int)]:List Int)
def me(x1:Int)(y101:(List Int))(K0:Int->Int):Nat->Int->Int->Int
 |0,x5_,x10_=>K0 x5_
 |m+1,x5_,x10_=>
  if(decide (x10_ < x1))then
   me x1 y101 K0 m (wr (x5_+(ix y101 x10_))) (x10_+1)
  else
  me x1 y101 K0 m x5_ (x10_+1)
def qc(x0:af)(x1:Int):Int:=
 LET (nk x0) λy101=>
 me x1 y101 (λ(x5_107:Int)=>
  x5_107) (Int.toNat (4-0)) 0 0
def rr(x0:af)(x1:Int)(x2:Int):Int:=
 if((decide (x2 < 0))||(decide ((ix (nk x0) x1)<=x2)))then
  (-1)
 else
 LET (qc x0 x1) λy106=>
 (wr (y106+x2))
def kb(x0:af)(x1:aa)(K0:Int->Int):Nat->Int->Int->Int
 |0,x5_,x52_=>K0 x5_
 |m+1,x5_,x52_=>
  kb x0 x1 K0 m (wr (x5_+(((ix (sub x0.Headers 0 x1.Header) x52_).Fields).length:Int))) (x52_+1)
def ka(x0:af)(x1:aa):Int:=
 if(decide (x1.Header=(-1)))then
  LET (rr x0 2 x1.Field) λy102=>
  y102
 else
 if((((decide (x1.Header < 0))||(decide ((x0.Headers.length:Int)<=x1.Header)))||(decide (x1.Field < 0)))||(decide ((((ix x0.Headers x1.Header).Fields).length:Int)<=x1.Field)))then
  (-1)
 else
 kb x0 x1 (λ(x5_120:Int)=>
  x5_120) (Int.toNat (((sub x0.Headers 0 x1.Header).length:Int)-0)) x1.Field 0
def kp(x0:af)(x1:Int):Int:=
 LET (rr x0 1 x1) λy101=>
 y101
def je(x0:af)(x1:Int):Int:=
 LET (rr x0 3 x1) λy101=>
 y101
def gh(x1:List aa)(K0:au->au):Nat->Int->au->au
 |0,x18_,zE1=>K0 zE1
 |m+1,x18_,zE1=>
  LET (ka zE1.p (ix x1 x18_)) λy107=>
  LET (gu y107 ({p:=zE1.p,cells:=zE1.cells}:au)) λy108=>
  gh x1 K0 m (x18_+1) ({p:=y108.p,cells:=y108.cells}:au)
def gj(x2:List Int)(K2:au->au):Nat->Int->au->au
 |0,x33_,zE1=>K2 zE1
 |m+1,x33_,zE1=>
  LET (kp zE1.p (ix x2 x33_)) λy114=>
  LET (gu y114 ({p:=zE1.p,cells:=zE1.cells}:au)) λy115=>
  gj x2 K2 m (x33_+1) ({p:=y115.p,cells:=y115.cells}:au)
def gi(x3:List Int)(K4:au->au):Nat->Int->au->au
 |0,x48_,zE1=>K4 zE1
 |m+1,x48_,zE1=>
  LET (je zE1.p (ix x3 x48_)) λy121=>
  LET (gu y121 ({p:=zE1.p,cells:=zE1.cells}:au)) λy122=>
  gi x3 K4 m (x48_+1) ({p:=y122.p,cells:=y122.cells}:au)
def fw(x0:au)(x1:List aa)(x2:List Int)(x3:List Int):au:=
 gh x1 (λ(zE1_110:au)=>
  gj x2 (λ(zE1_117:au)=>
   gi x3 (λ(zE1_124:au)=>
    ({p:=zE1_124.p,cells:=zE1_124.cells}:au)) (Int.toNat ((x3.length:Int)-0)) 0 ({p:=zE1_117.p,cells:=zE1_117.cells}:au)) (Int.toNat ((x2.length:Int)-0)) 0 ({p:=zE1_110.p,cells:=zE1_110.cells}:au)) (Int.toNat ((x1.length:Int)-0)) 0 ({p:=x0.p,cells:=x0.cells}:au)
def fe(x0:au):(List Int):=
 LET (en x0.cells) λy101=>
 LET (ky y101) λy103=>
 y103
def il(x0:af)(x1:ay):ca×Bool:=
 if((decide (x1.Table < 0))||(decide ((x0.Tables.length:Int)<=x1.Table)))then
  (({Name:=([]:List UInt8),Keys:=([]:List fq),Actions:=([]:List Int),Default:=({Action:=0,Args:=([]:List (BitVec 32))}:gw),Size:=0}:ca),false)
 else
 ((ix x0.Tables x1.Table),true)
def nr(x0:UInt8):Bool:=
 (((decide ((97:UInt8)<=x0))&&(decide (x0<=(122:UInt8))))||((decide ((65:UInt8)<=x0))&&(decide (x0<=(90:UInt8)))))
def ou(x0:List UInt8)(x1:UInt8->Bool)(K0:Int->Int):Nat->Int->Int
 |0,x5_=>K0 x5_
 |m+1,x5_=>
  if((decide (x5_ < (x0.length:Int)))&&(x1 (ix x0 x5_)))then
   ou x0 x1 K0 m (x5_+1)
  else
  K0 x5_
def uw(x0:List UInt8)(x1:UInt8->Bool):Int:=
 ou x0 x1 (λ(x5_107:Int)=>
  x5_107) (Int.toNat ((x0.length:Int)-0)) 0
def pg(x0:UInt8):Bool:=
 ((decide ((48:UInt8)<=x0))&&(decide (x0<=(57:UInt8))))
def ll(x0:UInt8):Bool:=
 LET (nr x0) λy101=>
 ((y101||(pg x0))||(decide (x0=(95:UInt8))))
def li(x0:List UInt8):Bool:=
 if(((decide ((x0.length:Int)=0))||(decide (16 < (x0.length:Int))))||(!(nr (ix x0 0))))then
  false
 else
 LET (uw x0 ll) λy105=>
 (decide (y105=(x0.length:Int)))
def gy(x0:bg)(c0:bg):Bool:=
 (decide (x0.Name=c0.Name))
def dv(x0:List bg)(x1:bg->Bool)(K0:Unit->Int):Nat->Int->Int
 |0,x8_=>K0 ()
 |m+1,x8_=>
  if(x1 (ix x0 x8_))then
   x8_
  else
  dv x0 x1 K0 m (x8_+1)
def io(x0:List bg)(x1:bg->Bool):Int:=
 dv x0 x1 (λ(_:Unit)=>
  (-1)) (Int.toNat ((x0.length:Int)-0)) 0
def ib(x0:List bg)(x1:bg->Bool):Bool:=
 LET (io x0 x1) λy101=>
 (decide (0<=y101))
def jb(x0:bt)(K1:Unit->Int):Nat->Int->Int
 |0,x24_=>K1 ()
 |m+1,x24_=>
  LET (li ((ix x0.Params x24_).Name)) λy114=>
  if(!y114)then
   6
  else
  if((decide (((ix x0.Params x24_).Width) < 1))||(decide (32 < ((ix x0.Params x24_).Width))))then
   10
  else
  LET (ib (sub x0.Params 0 x24_) (λa_=>gy a_ (ix x0.Params x24_))) λy122=>
  if y122 then
   7
  else
  jb x0 K1 m (x24_+1)
def lk(x0:bt):Int:=
 LET (li x0.Name) λy101=>
 if(!y101)then
  6
 else
 if((decide (4 < (x0.Params.length:Int)))||(decide (12 < (x0.Body.length:Int))))then
  12
 else
 jb x0 (λ(_:Unit)=>
  0) (Int.toNat ((x0.Params.length:Int)-0)) 0
def rx(x0:af)(x1:aa):Int×Bool:=
 LET (λ(x6_109:List bg)=>
  if((decide (x1.Field < 0))||(decide ((x6_109.length:Int)<=x1.Field)))then
   (0,false)
  else
  ((ix x6_109 x1.Field).Width,true)) λk109=>
 if(!decide (x1.Header=(-1)))then
  if((decide (x1.Header < 0))||(decide ((x0.Headers.length:Int)<=x1.Header)))then
   (0,false)
  else
  k109 ((ix x0.Headers x1.Header).Fields)
 else
 k109 x0.Metadata
def iu(x0:dq)(x1:List ai)(x2:Int):Int:=
 LET (pr x1 x0.scope) λy102=>
 if((decide (y102.2=0))&&(!decide (y102.1=x2)))then
  10
 else
 y102.2
def fh(x0:dq)(x1:aw):Int:=
 LET (rx x0.scope.Program x1.Dst) λy107=>
 if(decide (x1.Kind=1))then
  if(!y107.2)then
   8
  else
  LET (iu x0 x1.Value y107.1) λy113=>
  y113
 else
 LET (λ(x43_115:Bool)=>
  if x43_115 then
   if((decide (x1.Header < 0))||(decide ((x0.scope.Program.Headers.length:Int)<=x1.Header)))then
    8
   else
   0
  else
  LET (λ(x57_121:Bool)=>
   if x57_121 then
    if((!((decide (0<=x1.Register))&&(decide (x1.Register < (x0.scope.Program.Registers.length:Int)))))||((decide (x1.Kind=4))&&(!y107.2)))then
     8
    else
    LET (pr x1.Index x0.scope) λy128=>
    if(!decide (y128.2=0))then
     y128.2
    else
    if(decide (x1.Kind=5))then
     LET (iu x0 x1.Value ((ix x0.scope.Program.Registers x1.Register).Width)) λy134=>
     y134
    else
    if(!decide (y107.1=((ix x0.scope.Program.Registers x1.Register).Width)))then
     10
    else
    0
   else
   11) λk121=>
  if(decide (x1.Kind=4))then
   k121 (decide (x1.Kind=4))
  else
  k121 (decide (x1.Kind=5))) λk115=>
 if(decide (x1.Kind=2))then
  k115 (decide (x1.Kind=2))
 else
 k115 (decide (x1.Kind=3))
def lg(x0:af)(x1:Int)(K0:Unit->(Int×Int)):Nat->Int->(Int×Int)
 |0,x37_=>K0 ()
 |m+1,x37_=>
  LET (fh ({scope:=({Program:=x0,Params:=(ix x0.Actions x1).Params}:bf)}:dq) (ix ((ix x0.Actions x1).Body) x37_)) λy124=>
  if(!decide (y124=0))then
   (x37_,y124)
  else
  lg x0 x1 K0 m (x37_+1)
def ng(x0:af)(x1:Int):Int×Int:=
 if((decide (x1 < 0))||(decide ((x0.Actions.length:Int)<=x1)))then
  ((-1),8)
 else
 LET (lk (ix x0.Actions x1)) λy109=>
 if(!decide (y109=0))then
  ((-1),y109)
 else
 lg x0 x1 (λ(_:Unit)=>
  (0,0)) (Int.toNat ((((ix x0.Actions x1).Body).length:Int)-0)) 0
def kw(x0:af)(x1:Int):(List aw):=
 LET (ng x0 x1) λy101=>
 if(!decide (y101.2=0))then
  ([]:List aw)
 else
 (ix x0.Actions x1).Body
def dx(x0:cn)(x1:List ai):cn:=
 LET (mr x1) λy101=>
 LET (lc x1) λy105=>
 ({fields:=(x0.fields++y101),headers:=(x0.headers++y105),registers:=x0.registers}:cn)
def dg(x0:cn):(List aa)×(List Int)×(List Int):=
 LET (ga x0.fields) λy102=>
 LET (en x0.headers) λy104=>
 LET (en x0.registers) λy106=>
 LET (jt y102) λy108=>
 LET (ky y104) λy111=>
 LET (ky y106) λy114=>
 (y108,y111,y114)
def ie(y103:(List aw))(K0:cn->((List aa)×(List Int)×(List Int))):Nat->Int->cn->((List aa)×(List Int)×(List Int))
 |0,x14_,zE102=>K0 zE102
 |m+1,x14_,zE102=>
  LET (λ(zE102_143:cn)=>
   if(((decide (((ix y103 x14_).Kind)=1))||(decide (((ix y103 x14_).Kind)=4)))&&(!decide ((((ix y103 x14_).Dst).Header)=(-1))))then
    ie y103 K0 m (x14_+1) ({fields:=zE102_143.fields,headers:=(zE102_143.headers++([((ix y103 x14_).Dst).Header]:List Int)),registers:=zE102_143.registers}:cn)
   else
   ie y103 K0 m (x14_+1) ({fields:=zE102_143.fields,headers:=zE102_143.headers,registers:=zE102_143.registers}:cn)) λk143=>
  if(decide (((ix y103 x14_).Kind)=1))then
   LET (dx ({fields:=zE102.fields,headers:=zE102.headers,registers:=zE102.registers}:cn) ((ix y103 x14_).Value)) λy155=>
   k143 ({fields:=y155.fields,headers:=y155.headers,registers:=y155.registers}:cn)
  else
  if(decide (((ix y103 x14_).Kind)=2))then
   k143 ({fields:=zE102.fields,headers:=(zE102.headers++([(ix y103 x14_).Header]:List Int)),registers:=zE102.registers}:cn)
  else
  if(decide (((ix y103 x14_).Kind)=4))then
   LET (dx ({fields:=zE102.fields,headers:=zE102.headers,registers:=zE102.registers}:cn) ((ix y103 x14_).Index)) λy165=>
   k143 ({fields:=y165.fields,headers:=y165.headers,registers:=(y165.registers++([(ix y103 x14_).Register]:List Int))}:cn)
  else
  if(decide (((ix y103 x14_).Kind)=5))then
   LET (dx ({fields:=zE102.fields,headers:=zE102.headers,registers:=zE102.registers}:cn) ((ix y103 x14_).Index)) λy174=>
   LET (dx ({fields:=y174.fields,headers:=y174.headers,registers:=y174.registers}:cn) ((ix y103 x14_).Value)) λy178=>
   k143 ({fields:=y178.fields,headers:=y178.headers,registers:=y178.registers}:cn)
  else
  k143 ({fields:=zE102.fields,headers:=zE102.headers,registers:=zE102.registers}:cn)
def jd(x0:af)(x1:Int):(List aa)×(List Int)×(List Int):=
 LET (kw x0 x1) λy103=>
 ie y103 (λ(zE102_181:cn)=>
  LET (dg ({fields:=zE102_181.fields,headers:=zE102_181.headers,registers:=zE102_181.registers}:cn)) λy182=>
  (y182.1,y182.2.1,y182.2.2)) (Int.toNat ((y103.length:Int)-0)) 0 ({fields:=([]:List aa),headers:=([]:List Int),registers:=([]:List Int)}:cn)
def mg(y119:ca×Bool)(K0:au->(List Int)):Nat->Int->au->(List Int)
 |0,x39_,zE103=>K0 zE103
 |m+1,x39_,zE103=>
  LET (fw ({p:=zE103.p,cells:=zE103.cells}:au) ([(ix y119.1.Keys x39_).Field]:List aa) ([]:List Int) ([]:List Int)) λy139=>
  mg y119 K0 m (x39_+1) ({p:=y139.p,cells:=y139.cells}:au)
def ld(x0:af)(y119:ca×Bool)(K2:au->(List Int)):Nat->Int->au->(List Int)
 |0,x52_,zE103=>K2 zE103
 |m+1,x52_,zE103=>
  LET (jd x0 (ix y119.1.Actions x52_)) λy150=>
  LET (fw ({p:=zE103.p,cells:=zE103.cells}:au) y150.1 y150.2.1 y150.2.2) λy154=>
  ld x0 y119 K2 m (x52_+1) ({p:=y154.p,cells:=y154.cells}:au)
def nh(x0:af)(x1:ay):(List Int):=
 if(decide (x1.Table=(-1)))then
  LET (mr x1.Cond) λy106=>
  LET (lc x1.Cond) λy109=>
  LET (fw ({p:=x0,cells:=([]:List Int)}:au) y106 y109 ([]:List Int)) λy111=>
  LET (fe ({p:=y111.p,cells:=y111.cells}:au)) λy115=>
  y115
 else
 LET (il x0 x1) λy119=>
 if(!y119.2)then
  ([]:List Int)
 else
 mg y119 (λ(zE103_142:au)=>
  ld x0 y119 (λ(zE103_157:au)=>
   LET (fe ({p:=zE103_157.p,cells:=zE103_157.cells}:au)) λy158=>
   y158) (Int.toNat ((y119.1.Actions.length:Int)-0)) 0 ({p:=zE103_142.p,cells:=zE103_142.cells}:au)) (Int.toNat ((y119.1.Keys.length:Int)-0)) 0 ({p:=x0,cells:=([]:List Int)}:au)
def jk(y103:(List aw))(x15_:Int)(K3:(List Int)->(List Int)->(List aa)->((List aa)×(List Int)×(List Int))):Nat->Int->(List Int)->(List Int)->(List aa)->((List aa)×(List Int)×(List Int))
 |0,x49_,zE110n2,zE108n2,zE106n2=>K3 zE110n2 zE108n2 zE106n2
 |m+1,x49_,zE110n2,zE108n2,zE106n2=>
  jk y103 x15_ K3 m (x49_+1) zE110n2 zE108n2 (zE106n2++([({Header:=(ix y103 x15_).Header,Field:=x49_}:aa)]:List aa))
def fd(x0:af)(y103:(List aw))(K0:(List Int)->(List Int)->(List aa)->((List aa)×(List Int)×(List Int))):Nat->Int->(List Int)->(List Int)->(List aa)->((List aa)×(List Int)×(List Int))
 |0,x15_,zE110,zE108,zE106=>K0 zE110 zE108 zE106
 |m+1,x15_,zE110,zE108,zE106=>
  LET (λ(x21_118:Bool)=>
   if x21_118 then
    fd x0 y103 K0 m (x15_+1) zE110 zE108 (zE106++([(ix y103 x15_).Dst]:List aa))
   else
   LET (λ(x31_125:Bool)=>
    if x31_125 then
     jk y103 x15_ (λ(zE110n2_138:List Int)(zE108n2_138:List Int)(zE106n2_138:List aa)=>
      fd x0 y103 K0 m (x15_+1) zE110n2_138 zE108n2_138 zE106n2_138) (Int.toNat ((((ix x0.Headers ((ix y103 x15_).Header)).Fields).length:Int)-0)) 0 zE110 (zE108++([(ix y103 x15_).Header]:List Int)) zE106
    else
    if(decide (((ix y103 x15_).Kind)=5))then
     fd x0 y103 K0 m (x15_+1) (zE110++([(ix y103 x15_).Register]:List Int)) zE108 zE106
    else
    fd x0 y103 K0 m (x15_+1) zE110 zE108 zE106) λk125=>
   if(decide (((ix y103 x15_).Kind)=2))then
    k125 (decide (((ix y103 x15_).Kind)=2))
   else
   k125 (decide (((ix y103 x15_).Kind)=3))) λk118=>
  if(decide (((ix y103 x15_).Kind)=1))then
   k118 (decide (((ix y103 x15_).Kind)=1))
  else
  k118 (decide (((ix y103 x15_).Kind)=4))
def ik(x0:af)(x1:Int):(List aa)×(List Int)×(List Int):=
 LET (kw x0 x1) λy103=>
 fd x0 y103 (λ(zE110_145:List Int)(zE108_145:List Int)(zE106_145:List aa)=>
  LET (dg ({fields:=zE106_145,headers:=zE108_145,registers:=zE110_145}:cn)) λy146=>
  (y146.1,y146.2.1,y146.2.2)) (Int.toNat ((y103.length:Int)-0)) 0 ([]:List Int) ([]:List Int) ([]:List aa)
def lv(x0:af)(y101:ca×Bool)(K0:au->(List Int)):Nat->Int->au->(List Int)
 |0,x24_,zE109=>K0 zE109
 |m+1,x24_,zE109=>
  LET (ik x0 (ix y101.1.Actions x24_)) λy120=>
  LET (fw ({p:=zE109.p,cells:=zE109.cells}:au) y120.1 y120.2.1 y120.2.2) λy124=>
  lv x0 y101 K0 m (x24_+1) ({p:=y124.p,cells:=y124.cells}:au)
def km(x0:af)(x1:ay):(List Int):=
 LET (il x0 x1) λy101=>
 if(!y101.2)then
  ([]:List Int)
 else
 lv x0 y101 (λ(zE109_127:au)=>
  LET (fe ({p:=zE109_127.p,cells:=zE109_127.cells}:au)) λy128=>
  y128) (Int.toNat ((y101.1.Actions.length:Int)-0)) 0 ({p:=x0,cells:=([]:List Int)}:au)
def ek(x0:List bd)(x1:bd)(K0:Unit->Int):Nat->Int->Int
 |0,x8_=>K0 ()
 |m+1,x8_=>
  if(decide (x1=(ix x0 x8_)))then
   x8_
  else
  ek x0 x1 K0 m (x8_+1)
def ju(x0:List bd)(x1:bd):Int:=
 ek x0 x1 (λ(_:Unit)=>
  (-1)) (Int.toNat ((x0.length:Int)-0)) 0
def gn(x0:List bd)(x1:bd):Bool:=
 LET (ju x0 x1) λy101=>
 (decide (0<=y101))
def ol(x0:bd)(c0:List ay)(c1:Int):Bool:=
 LET (gn ((ix c0 c1).Guards) ({Unit:=x0.Unit,Want:=(!x0.Want)}:bd)) λy103=>
 y103
def dw(x0:List bd)(x1:bd->Bool)(K0:Unit->Int):Nat->Int->Int
 |0,x8_=>K0 ()
 |m+1,x8_=>
  if(x1 (ix x0 x8_))then
   x8_
  else
  dw x0 x1 K0 m (x8_+1)
def ip(x0:List bd)(x1:bd->Bool):Int:=
 dw x0 x1 (λ(_:Unit)=>
  (-1)) (Int.toNat ((x0.length:Int)-0)) 0
def ig(x0:List bd)(x1:bd->Bool):Bool:=
 LET (ip x0 x1) λy101=>
 (decide (0<=y101))
def ji(x0:List ay)(x1:Int)(x2:Int):Bool:=
 if((((decide (x1 < 0))||(decide ((x0.length:Int)<=x1)))||(decide (x2 < 0)))||(decide ((x0.length:Int)<=x2)))then
  false
 else
 LET (ig ((ix x0 x1).Guards) (λa_=>ol a_ x0 x2)) λy108=>
 y108
def ot(x0:ay)(x1:Int)(K0:Unit->Bool):Nat->Int->Bool
 |0,x10_=>K0 ()
 |m+1,x10_=>
  if(decide (((ix x0.Guards x10_).Unit)=x1))then
   true
  else
  ot x0 x1 K0 m (x10_+1)
def qx(x0:ay)(x1:Int):Bool:=
 ot x0 x1 (λ(_:Unit)=>
  false) (Int.toNat ((x0.Guards.length:Int)-0)) 0
def nz(x0:List Int)(x1:List Int)(x11_:Int)(K2:Unit->Bool):Nat->Int->Bool
 |0,x17_=>K2 ()
 |m+1,x17_=>
  if(decide ((ix x0 x11_)=(ix x1 x17_)))then
   true
  else
  nz x0 x1 x11_ K2 m (x17_+1)
def oa(x0:List Int)(x1:List Int)(K0:Unit->Bool):Nat->Int->Bool
 |0,x11_=>K0 ()
 |m+1,x11_=>
  nz x0 x1 x11_ (λ(_:Unit)=>
   oa x0 x1 K0 m (x11_+1)) (Int.toNat ((x1.length:Int)-0)) 0
def ij(x0:List Int)(x1:List Int):Bool:=
 oa x0 x1 (λ(_:Unit)=>
  false) (Int.toNat ((x0.length:Int)-0)) 0
def nl(x0:af)(x1:List ay)(K0:(List (List Int))->(List (List Int))->(List (List Int))->(List (List Int))):Nat->Int->(List (List Int))->(List (List Int))->(List (List Int))->(List (List Int))
 |0,x23_,zE106,zE104,zE102=>K0 zE106 zE104 zE102
 |m+1,x23_,zE106,zE104,zE102=>
  LET (nh x0 (ix x1 x23_)) λy113=>
  LET (km x0 (ix x1 x23_)) λy115=>
  nl x0 x1 K0 m (x23_+1) (zE106.set (x23_).toNat (List.replicate x1.length (0:Int))) (zE104.set (x23_).toNat y115) (zE102.set (x23_).toNat y113)
def kn(x1:List ay)(zE104_130:List (List Int))(zE102_130:List (List Int))(x47_:Int)(K3:(List (List Int))->(List (List Int)))(K4:(List (List Int))->(List (List Int))):Nat->Int->(List (List Int))->(List (List Int))
 |0,x51_,zE106n3=>K4 zE106n3
 |m+1,x51_,zE106n3=>
  if(decide (x51_<=x47_))then
   kn x1 zE104_130 zE102_130 x47_ K3 K4 m (x51_+1) zE106n3
  else
  LET (ji x1 x47_ x51_) λy136=>
  if y136 then
   if(decide (x51_=(wr ((x1.length:Int)-1))))then
    K3 zE106n3
   else
   kn x1 zE104_130 zE102_130 x47_ K3 K4 m (x51_+1) zE106n3
  else
  LET (qx (ix x1 x51_) x47_) λy140=>
  if((y140||(ij (ix zE102_130 x51_) (ix zE104_130 x47_)))||(ij (ix zE104_130 x51_) (ix zE104_130 x47_)))then
   if(decide (x51_=(wr ((x1.length:Int)-1))))then
    K3 (zE106n3.set (x47_).toNat ((ix zE106n3 x47_).set (x51_).toNat 2))
   else
   kn x1 zE104_130 zE102_130 x47_ K3 K4 m (x51_+1) (zE106n3.set (x47_).toNat ((ix zE106n3 x47_).set (x51_).toNat 2))
  else
  LET (ij (ix zE104_130 x51_) (ix zE102_130 x47_)) λy166=>
  if y166 then
   if(decide (x51_=(wr ((x1.length:Int)-1))))then
    K3 (zE106n3.set (x47_).toNat ((ix zE106n3 x47_).set (x51_).toNat 1))
   else
   kn x1 zE104_130 zE102_130 x47_ K3 K4 m (x51_+1) (zE106n3.set (x47_).toNat ((ix zE106n3 x47_).set (x51_).toNat 1))
  else
  if(decide (x51_=(wr ((x1.length:Int)-1))))then
   K3 zE106n3
  else
  kn x1 zE104_130 zE102_130 x47_ K3 K4 m (x51_+1) zE106n3
def ko(x1:List ay)(zE104_130:List (List Int))(zE102_130:List (List Int))(K2:(List (List Int))->(List (List Int))):Nat->Int->(List (List Int))->(List (List Int))
 |0,x47_,zE106=>K2 zE106
 |m+1,x47_,zE106=>
  kn x1 zE104_130 zE102_130 x47_ (λ(zE106n3_177:List (List Int))=>
   ko x1 zE104_130 zE102_130 K2 m (x47_+1) zE106n3_177) (λ(zE106n3_178:List (List Int))=>
   ko x1 zE104_130 zE102_130 K2 m (x47_+1) zE106n3_178) (Int.toNat ((x1.length:Int)-0)) 0 zE106
def pm(x0:af)(x1:List ay):(List (List Int)):=
 nl x0 x1 (λ(zE106_130:List (List Int))(zE104_130:List (List Int))(zE102_130:List (List Int))=>
  ko x1 zE104_130 zE102_130 (λ(zE106_179:List (List Int))=>
   zE106_179) (Int.toNat ((x1.length:Int)-0)) 0 zE106_130) (Int.toNat ((x1.length:Int)-0)) 0 (List.replicate x1.length ([]:List Int)) (List.replicate x1.length ([]:List Int)) (List.replicate x1.length ([]:List Int))
def qh(x0:UInt8):Bool:=
 (((decide ((97:UInt8)<=x0))&&(decide (x0<=(122:UInt8))))||((decide ((65:UInt8)<=x0))&&(decide (x0<=(90:UInt8)))))
def rn(x0:UInt8):Bool:=
 ((decide ((48:UInt8)<=x0))&&(decide (x0<=(57:UInt8))))
def kf(x0:List UInt8)(K0:Unit->Bool):Nat->Int->Bool
 |0,x3_=>K0 ()
 |m+1,x3_=>
  LET (qh (ix x0 x3_)) λy107=>
  if(((!y107)&&(!(rn (ix x0 x3_))))&&(!decide ((ix x0 x3_)=(95:UInt8))))then
   false
  else
  kf x0 K0 m (x3_+1)
def ki(x0:List UInt8):Bool:=
 if(((decide (x0=([]:List UInt8)))||(decide (16 < (x0.length:Int))))||(!(qh (ix x0 0))))then
  false
 else
 kf x0 (λ(_:Unit)=>
  true) (Int.toNat ((x0.length:Int)-0)) 0
def mf(x0:List bg)(x3_:Int)(K3:Unit->Int):Nat->Int->Int
 |0,x4_=>K3 ()
 |m+1,x4_=>
  if(decide (((ix x0 x4_).Name)=((ix x0 x3_).Name)))then
   7
  else
  mf x0 x3_ K3 m (x4_+1)
def mh(x0:List bg)(K0:Unit->Int):Nat->Int->Int
 |0,x3_=>K0 ()
 |m+1,x3_=>
  LET (ki ((ix x0 x3_).Name)) λy104=>
  if(!y104)then
   6
  else
  if((decide (((ix x0 x3_).Width) < 1))||(decide (32 < ((ix x0 x3_).Width))))then
   10
  else
  mf x0 x3_ (λ(_:Unit)=>
   mh x0 K0 m (x3_+1)) (Int.toNat (x3_-0)) 0
def ry(x0:List bg):Int:=
 mh x0 (λ(_:Unit)=>
  0) (Int.toNat ((x0.length:Int)-0)) 0
def uf(x0:af)(x1:Int):bf:=
 ({Program:=x0,Params:=(ix x0.Actions x1).Params}:bf)
def po(x0:af)(x1:aa):Int×Bool:=
 LET (λ(x6_109:List bg)=>
  if((decide (x1.Field < 0))||(decide ((x6_109.length:Int)<=x1.Field)))then
   (0,false)
  else
  ((ix x6_109 x1.Field).Width,true)) λk109=>
 if(!decide (x1.Header=(-1)))then
  if((decide (x1.Header < 0))||(decide ((x0.Headers.length:Int)<=x1.Header)))then
   (0,false)
  else
  k109 ((ix x0.Headers x1.Header).Fields)
 else
 k109 x0.Metadata
def og(x0:Int):Int:=
 if((decide (1<=x0))&&(decide (x0<=4)))then
  0
 else
 if((decide (5<=x0))&&(decide (x0<=8)))then
  1
 else
 if((decide (9<=x0))&&(decide (x0<=16)))then
  2
 else
 if(decide (x0=17))then
  3
 else
 (-1)
def rp(x0:Int):Int×Int:=
 if((decide (x0 < 1))||(decide (32 < x0)))then
  (0,10)
 else
 (x0,0)
def su(x0:Int):Bool:=
 ((decide (1<=x0))&&(decide (x0<=32)))
def rl(K0:(BitVec 64)->(BitVec 64)):Nat->(BitVec 64)->Int->(BitVec 64)
 |0,x3_,x4_=>K0 x3_
 |m+1,x3_,x4_=>
  rl K0 m (2#64*x3_) (x4_+1)
def yp(x0:Int):(BitVec 64):=
 rl (λ(x3_103:BitVec 64)=>
  x3_103) (Int.toNat (x0-0)) 1#64 0
def qu(x0:Int):(BitVec 32):=
 LET (su x0) λy101=>
 if(!y101)then
  0#32
 else
 LET (yp x0) λy103=>
 (BitVec.setWidth 32 (y103-1#64))
def tv(x0:ai)(x1:bf):Int×Int:=
 if(decide (x0.Op=1))then
  LET (rp x0.W) λy102=>
  if((decide (y102.2=0))&&((decide (x0.N < 0))||(decide (((qu y102.1).toNat:Int) < x0.N))))then
   (0,9)
  else
  (y102.1,y102.2)
 else
 if(decide (x0.Op=2))then
  LET (po x1.Program ({Header:=x0.N,Field:=x0.W}:aa)) λy109=>
  if(!y109.2)then
   (0,8)
  else
  LET (rp y109.1) λy111=>
  (y111.1,y111.2)
 else
 if(decide (x0.Op=3))then
  if((decide (x0.N < 0))||(decide ((x1.Params.length:Int)<=x0.N)))then
   (0,8)
  else
  LET (rp ((ix x1.Params x0.N).Width)) λy118=>
  (y118.1,y118.2)
 else
 if((decide (x0.N < 0))||(decide ((x1.Program.Headers.length:Int)<=x0.N)))then
  (0,8)
 else
 (1,0)
def jw(x0:ai)(x1:List Int):Int×Int:=
 if(decide (x0.Op=5))then
  ((ix x1 0),0)
 else
 LET (λ(x13_103:Bool)=>
  if x13_103 then
   if((decide (x0.N < 0))||(decide (31 < x0.N)))then
    (0,9)
   else
   ((ix x1 0),0)
  else
  if(decide (x0.Op=8))then
   if(decide (x0.N < 0))then
    (0,9)
   else
   if(((decide (x0.W < 1))||(decide (32 < x0.W)))||(decide ((wr ((ix x1 0)-x0.W)) < x0.N)))then
    (0,10)
   else
   (x0.W,0)
  else
  if(decide (x0.Op=14))then
   LET (rp (wr ((ix x1 0)+(ix x1 1)))) λy113=>
   (y113.1,y113.2)
  else
  if(decide (x0.Op=17))then
   if((!decide ((ix x1 0)=1))||(!decide ((ix x1 1)=(ix x1 2))))then
    (0,10)
   else
   ((ix x1 1),0)
  else
  if(!decide ((ix x1 0)=(ix x1 1)))then
   (0,10)
  else
  if((decide (x0.Op=15))||(decide (x0.Op=16)))then
   (1,0)
  else
  ((ix x1 0),0)) λk103=>
 if(decide (x0.Op=6))then
  k103 (decide (x0.Op=6))
 else
 k103 (decide (x0.Op=7))
def od(x0:List ai)(x2:bf)(rec_:(List ai)->Int->bf->(Int×Int×Int))(K0:Int->(List Int)->(Int×Int×Int)):Nat->Int->Int->(List Int)->(Int×Int×Int)
 |0,x13_,x14_,zE109=>K0 x13_ zE109
 |m+1,x13_,x14_,zE109=>
  LET (rec_ x0 x13_ x2) λy112=>
  if(!decide (y112.2.2=0))then
   (0,y112.2.1,y112.2.2)
  else
  od x0 x2 rec_ K0 m y112.2.1 (x14_+1) (zE109++([y112.1]:List Int))
def qi(rec_:(List ai)->Int->bf->(Int×Int×Int))(x0:List ai)(x1:Int)(x2:bf):Int×Int×Int:=
 if(decide ((x0.length:Int)<=x1))then
  (0,x1,3)
 else
 LET (og ((ix x0 x1).Op)) λy103=>
 if(decide (y103 < 0))then
  (0,x1,11)
 else
 if(decide (y103=0))then
  LET (tv (ix x0 x1) x2) λy107=>
  (y107.1,(wr (x1+1)),y107.2)
 else
 od x0 x2 rec_ (λ(x13_116:Int)(zE109_116:List Int)=>
  LET (jw (ix x0 x1) zE109_116) λy118=>
  (y118.1,x13_116,y118.2)) (Int.toNat (y103-0)) (wr (x1+1)) 0 ([]:List Int)
def jz:Nat->(List ai)->Int->bf->(Int×Int×Int)
 |0,x0,x1,x2=>(0,0,1)
 |n_+1,x0,x1,x2=>qi (jz n_) x0 x1 x2
def ue(x0:List ai)(x1:Int)(x2:bf):Int×Int×Int:=jz ((x0.length-x1.toNat)+1) x0 x1 x2
def qq(x0:List ai)(x1:bf):Int×Int:=
 if(decide (24 < (x0.length:Int)))then
  (0,12)
 else
 LET (ue x0 0 x1) λy102=>
 if(!decide (y102.2.2=0))then
  (0,y102.2.2)
 else
 if(decide (y102.2.1 < (x0.length:Int)))then
  (0,4)
 else
 (y102.1,0)
def sy(x0:List ai)(x1:bf)(x2:Int):Int:=
 LET (qq x0 x1) λy101=>
 if((decide (y101.2=0))&&(!decide (y101.1=x2)))then
  10
 else
 y101.2
def re(x0:af)(x1:aw)(x2:bf):Int:=
 LET (po x0 x1.Dst) λy102=>
 if(decide (x1.Kind=1))then
  if(!y102.2)then
   8
  else
  LET (sy x1.Value x2 y102.1) λy108=>
  y108
 else
 LET (λ(x43_110:Bool)=>
  if x43_110 then
   if((decide (x1.Header < 0))||(decide ((x0.Headers.length:Int)<=x1.Header)))then
    8
   else
   0
  else
  if(decide (x1.Kind=4))then
   if((!y102.2)||(!((decide (0<=x1.Register))&&(decide (x1.Register < (x0.Registers.length:Int))))))then
    8
   else
   LET (qq x1.Index x2) λy119=>
   if((decide (y119.2=0))&&(!decide (y102.1=((ix x0.Registers x1.Register).Width))))then
    10
   else
   y119.2
  else
  if(decide (x1.Kind=5))then
   if(!((decide (0<=x1.Register))&&(decide (x1.Register < (x0.Registers.length:Int)))))then
    8
   else
   LET (qq x1.Index x2) λy127=>
   if(!decide (y127.2=0))then
    y127.2
   else
   LET (sy x1.Value x2 ((ix x0.Registers x1.Register).Width)) λy132=>
   y132
  else
  11) λk110=>
 if(decide (x1.Kind=2))then
  k110 (decide (x1.Kind=2))
 else
 k110 (decide (x1.Kind=3))
def pq(x0:af)(x1:Int)(K1:Unit->(Int×Int)):Nat->Int->(Int×Int)
 |0,x7_=>K1 ()
 |m+1,x7_=>
  LET (uf x0 x1) λy126=>
  LET (re x0 (ix ((ix x0.Actions x1).Body) x7_) y126) λy128=>
  if(!decide (y128=0))then
   (x7_,y128)
  else
  pq x0 x1 K1 m (x7_+1)
def ny(x0:af)(x1:Int):Int×Int:=
 if((decide (x1 < 0))||(decide ((x0.Actions.length:Int)<=x1)))then
  ((-1),8)
 else
 LET (ki ((ix x0.Actions x1).Name)) λy109=>
 if(!y109)then
  ((-1),6)
 else
 if((decide (4 < (((ix x0.Actions x1).Params).length:Int)))||(decide (12 < (((ix x0.Actions x1).Body).length:Int))))then
  ((-1),12)
 else
 LET (ry ((ix x0.Actions x1).Params)) λy116=>
 if(!decide (y116=0))then
  LET (ry ((ix x0.Actions x1).Params)) λy119=>
  ((-1),y119)
 else
 pq x0 x1 (λ(_:Unit)=>
  (0,0)) (Int.toNat ((((ix x0.Actions x1).Body).length:Int)-0)) 0
def ke(x0:aa)(x1:aa):Bool:=
 ((decide (x0.Header < x1.Header))||((decide (x0.Header=x1.Header))&&(decide (x0.Field < x1.Field))))
def gk(x0:List aa)(x1:aa)(K0:Bool->(List aa)->(List aa)):Nat->Bool->Int->(List aa)->(List aa)
 |0,x6_,x7_,zE102=>K0 x6_ zE102
 |m+1,x6_,x7_,zE102=>
  if((!x6_)&&(!(ke (ix x0 x7_) x1)))then
   if(!decide ((ix x0 x7_)=x1))then
    gk x0 x1 K0 m true (x7_+1) ((zE102++([x1]:List aa))++([(ix x0 x7_)]:List aa))
   else
   gk x0 x1 K0 m true (x7_+1) (zE102++([(ix x0 x7_)]:List aa))
  else
  gk x0 x1 K0 m x6_ (x7_+1) (zE102++([(ix x0 x7_)]:List aa))
def lb(x0:List aa)(x1:aa):(List aa):=
 gk x0 x1 (λ(x6_122:Bool)(zE102_122:List aa)=>
  if(!x6_122)then
   (zE102_122++([x1]:List aa))
  else
  zE102_122) (Int.toNat ((x0.length:Int)-0)) false 0 ([]:List aa)
def im(x0:List Int)(x1:Int)(K0:Bool->(List Int)->(List Int)):Nat->Bool->Int->(List Int)->(List Int)
 |0,x6_,x7_,zE102=>K0 x6_ zE102
 |m+1,x6_,x7_,zE102=>
  if((!x6_)&&(decide (x1<=(ix x0 x7_))))then
   if(!decide ((ix x0 x7_)=x1))then
    im x0 x1 K0 m true (x7_+1) ((zE102++([x1]:List Int))++([(ix x0 x7_)]:List Int))
   else
   im x0 x1 K0 m true (x7_+1) (zE102++([(ix x0 x7_)]:List Int))
  else
  im x0 x1 K0 m x6_ (x7_+1) (zE102++([(ix x0 x7_)]:List Int))
def iv(x0:List Int)(x1:Int):(List Int):=
 im x0 x1 (λ(x6_116:Bool)(zE102_116:List Int)=>
  if(!x6_116)then
   (zE102_116++([x1]:List Int))
  else
  zE102_116) (Int.toNat ((x0.length:Int)-0)) false 0 ([]:List Int)
def mn(x0:af)(x1:Int)(x11_:Int)(K3:av->((List aa)×(List Int)×(List Int))):Nat->Int->av->((List aa)×(List Int)×(List Int))
 |0,x13_,zE104n2=>K3 zE104n2
 |m+1,x13_,zE104n2=>
  LET (lb zE104n2.Fields ({Header:=(ix ((ix x0.Actions x1).Body) x11_).Header,Field:=x13_}:aa)) λy136=>
  mn x0 x1 x11_ K3 m (x13_+1) ({Fields:=y136,Headers:=zE104n2.Headers,Registers:=zE104n2.Registers}:av)
def jh(x0:af)(x1:Int)(K0:av->((List aa)×(List Int)×(List Int))):Nat->Int->av->((List aa)×(List Int)×(List Int))
 |0,x11_,zE104=>K0 zE104
 |m+1,x11_,zE104=>
  LET (λ(x47_116:Bool)=>
   if x47_116 then
    LET (lb zE104.Fields ((ix ((ix x0.Actions x1).Body) x11_).Dst)) λy120=>
    jh x0 x1 K0 m (x11_+1) ({Fields:=y120,Headers:=zE104.Headers,Registers:=zE104.Registers}:av)
   else
   LET (λ(x56_125:Bool)=>
    if x56_125 then
     mn x0 x1 x11_ (λ(zE104n2_140:av)=>
      LET (iv zE104n2_140.Headers ((ix ((ix x0.Actions x1).Body) x11_).Header)) λy142=>
      jh x0 x1 K0 m (x11_+1) ({Fields:=zE104n2_140.Fields,Headers:=y142,Registers:=zE104n2_140.Registers}:av)) (Int.toNat ((((ix x0.Headers ((ix ((ix x0.Actions x1).Body) x11_).Header)).Fields).length:Int)-0)) 0 zE104
    else
    LET (iv zE104.Registers ((ix ((ix x0.Actions x1).Body) x11_).Register)) λy147=>
    jh x0 x1 K0 m (x11_+1) ({Fields:=zE104.Fields,Headers:=zE104.Headers,Registers:=y147}:av)) λk125=>
   if(decide (((ix ((ix x0.Actions x1).Body) x11_).Kind)=2))then
    k125 (decide (((ix ((ix x0.Actions x1).Body) x11_).Kind)=2))
   else
   k125 (decide (((ix ((ix x0.Actions x1).Body) x11_).Kind)=3))) λk116=>
  if(decide (((ix ((ix x0.Actions x1).Body) x11_).Kind)=1))then
   k116 (decide (((ix ((ix x0.Actions x1).Body) x11_).Kind)=1))
  else
  k116 (decide (((ix ((ix x0.Actions x1).Body) x11_).Kind)=4))
def pd(x0:af)(x1:Int):(List aa)×(List Int)×(List Int):=
 LET (ny x0 x1) λy101=>
 if(!decide (y101.2=0))then
  (([]:List aa),([]:List Int),([]:List Int))
 else
 jh x0 x1 (λ(zE104_153:av)=>
  (zE104_153.Fields,zE104_153.Headers,zE104_153.Registers)) (Int.toNat ((((ix x0.Actions x1).Body).length:Int)-0)) 0 ({Fields:=([]:List aa),Headers:=([]:List Int),Registers:=([]:List Int)}:av)
def ml(x0:af)(K0:Int->Int):Nat->Int->Int->Int
 |0,x5_,x6_=>K0 x5_
 |m+1,x5_,x6_=>
  ml x0 K0 m (wr (x5_+(((ix x0.Headers x6_).Fields).length:Int))) (x6_+1)
def pc(x0:af)(x1:Int):Int:=
 ml x0 (λ(x5_106:Int)=>
  x5_106) (Int.toNat (x1-0)) 0 0
def gb(x0:af)(x1:aa):Int:=
 if(((decide (x1.Header=(-1)))&&(decide (0<=x1.Field)))&&(decide (x1.Field < (x0.Metadata.length:Int))))then
  LET (pc x0 (x0.Headers.length:Int)) λy106=>
  (wr ((wr (y106+(x0.Headers.length:Int)))+x1.Field))
 else
 if((((decide (x1.Header < 0))||(decide ((x0.Headers.length:Int)<=x1.Header)))||(decide (x1.Field < 0)))||(decide ((((ix x0.Headers x1.Header).Fields).length:Int)<=x1.Field)))then
  (-1)
 else
 LET (pc x0 x1.Header) λy116=>
 (wr (y116+x1.Field))
def mm(x0:List Int)(x1:Int)(K0:Int->(List Int)):Nat->Int->(List Int)
 |0,x5_=>K0 x5_
 |m+1,x5_=>
  if((decide (x5_ < (x0.length:Int)))&&(decide ((ix x0 x5_) < x1)))then
   mm x0 x1 K0 m (x5_+1)
  else
  K0 x5_
def nb(x0:List Int)(x1:Int):(List Int):=
 mm x0 x1 (λ(x5_105:Int)=>
  if((decide (x1 < 0))||((decide (x5_105 < (x0.length:Int)))&&(decide ((ix x0 x5_105)=x1))))then
   x0
  else
  (((sub x0 0 x5_105)++([x1]:List Int))++(sub x0 x5_105 (x0.length:Int)))) (Int.toNat ((x0.length:Int)-0)) 0
def jf(x0:af)(x1:Int):Int:=
 if((decide (x1 < 0))||(decide ((x0.Headers.length:Int)<=x1)))then
  (-1)
 else
 LET (pc x0 (x0.Headers.length:Int)) λy105=>
 (wr (y105+x1))
def iw(x0:af)(x1:Int):Int:=
 if((decide (x1 < 0))||(decide ((x0.Registers.length:Int)<=x1)))then
  (-1)
 else
 LET (pc x0 (x0.Headers.length:Int)) λy105=>
 (wr ((wr ((wr (y105+(x0.Headers.length:Int)))+(x0.Metadata.length:Int)))+x1))
def mq(x0:af)(x2:List aa)(K0:(List Int)->(List Int)):Nat->(List Int)->Int->(List Int)
 |0,x1_,x11_=>K0 x1_
 |m+1,x1_,x11_=>
  LET (gb x0 (ix x2 x11_)) λy104=>
  LET (nb x1_ y104) λy105=>
  mq x0 x2 K0 m y105 (x11_+1)
def mj(x0:af)(x3:List Int)(K2:(List Int)->(List Int)):Nat->(List Int)->Int->(List Int)
 |0,x1_,x12_=>K2 x1_
 |m+1,x1_,x12_=>
  LET (jf x0 (ix x3 x12_)) λy110=>
  LET (nb x1_ y110) λy111=>
  mj x0 x3 K2 m y111 (x12_+1)
def mu(x0:af)(x4:List Int)(K4:(List Int)->(List Int)):Nat->(List Int)->Int->(List Int)
 |0,x1_,x13_=>K4 x1_
 |m+1,x1_,x13_=>
  LET (iw x0 (ix x4 x13_)) λy116=>
  LET (nb x1_ y116) λy117=>
  mu x0 x4 K4 m y117 (x13_+1)
def pb(x0:af)(x1:List Int)(x2:List aa)(x3:List Int)(x4:List Int):(List Int):=
 mq x0 x2 (λ(x1_107:List Int)=>
  mj x0 x3 (λ(x1_113:List Int)=>
   mu x0 x4 (λ(x1_119:List Int)=>
    x1_119) (Int.toNat ((x4.length:Int)-0)) x1_113 0) (Int.toNat ((x3.length:Int)-0)) x1_107 0) (Int.toNat ((x2.length:Int)-0)) x1 0
def mi(x0:af)(x1:ay)(K0:(List Int)->(List Int)):Nat->(List Int)->Int->(List Int)
 |0,x5_,x7_=>K0 x5_
 |m+1,x5_,x7_=>
  LET (pd x0 (ix ((ix x0.Tables x1.Table).Actions) x7_)) λy114=>
  LET (pb x0 x5_ y114.1 y114.2.1 y114.2.2) λy118=>
  mi x0 x1 K0 m y118 (x7_+1)
def qt(x0:af)(x1:ay):(List Int):=
 if((decide (x1.Table < 0))||(decide ((x0.Tables.length:Int)<=x1.Table)))then
  ([]:List Int)
 else
 mi x0 x1 (λ(x5_120:List Int)=>
  x5_120) (Int.toNat ((((ix x0.Tables x1.Table).Actions).length:Int)-0)) ([]:List Int) 0
def lf(x0:List ai)(K0:(List aa)->(List aa)):Nat->(List aa)->Int->(List aa)
 |0,x3_,x4_=>K0 x3_
 |m+1,x3_,x4_=>
  if(decide (((ix x0 x4_).Op)=2))then
   LET (lb x3_ ({Header:=(ix x0 x4_).N,Field:=(ix x0 x4_).W}:aa)) λy107=>
   lf x0 K0 m y107 (x4_+1)
  else
  lf x0 K0 m x3_ (x4_+1)
def oz(x0:List ai):(List aa):=
 lf x0 (λ(x3_109:List aa)=>
  x3_109) (Int.toNat ((x0.length:Int)-0)) ([]:List aa) 0
def kr(x0:List ai)(K0:(List Int)->(List Int)):Nat->(List Int)->Int->(List Int)
 |0,x3_,x4_=>K0 x3_
 |m+1,x3_,x4_=>
  if(decide (((ix x0 x4_).Op)=4))then
   LET (iv x3_ ((ix x0 x4_).N)) λy106=>
   kr x0 K0 m y106 (x4_+1)
  else
  kr x0 K0 m x3_ (x4_+1)
def nd(x0:List ai):(List Int):=
 kr x0 (λ(x3_108:List Int)=>
  x3_108) (Int.toNat ((x0.length:Int)-0)) ([]:List Int) 0
def lm(y105:(List aa))(K0:av->av):Nat->Int->av->av
 |0,x7_,zE102=>K0 zE102
 |m+1,x7_,zE102=>
  LET (lb zE102.Fields (ix y105 x7_)) λy114=>
  lm y105 K0 m (x7_+1) ({Fields:=y114,Headers:=zE102.Headers,Registers:=zE102.Registers}:av)
def lp(y107:(List Int))(K2:av->av):Nat->Int->av->av
 |0,x8_,zE102=>K2 zE102
 |m+1,x8_,zE102=>
  LET (iv zE102.Headers (ix y107 x8_)) λy122=>
  lp y107 K2 m (x8_+1) ({Fields:=zE102.Fields,Headers:=y122,Registers:=zE102.Registers}:av)
def ph(x0:av)(x1:List ai):av:=
 LET (oz x1) λy105=>
 LET (nd x1) λy107=>
 lm y105 (λ(zE102_118:av)=>
  lp y107 (λ(zE102_126:av)=>
   zE102_126) (Int.toNat ((y107.length:Int)-0)) 0 zE102_118) (Int.toNat ((y105.length:Int)-0)) 0 x0
def lz(x0:af)(x1:Int)(K0:av->((List aa)×(List Int)×(List Int))):Nat->Int->av->((List aa)×(List Int)×(List Int))
 |0,x11_,zE104=>K0 zE104
 |m+1,x11_,zE104=>
  LET (λ(zE104_121:av)=>
   LET (λ(zE104_128:av)=>
    LET (λ(zE104_139:av)=>
     LET (λ(zE104_146:av)=>
      if(decide (((ix ((ix x0.Actions x1).Body) x11_).Kind)=4))then
       LET (iv zE104_146.Registers ((ix ((ix x0.Actions x1).Body) x11_).Register)) λy149=>
       lz x0 x1 K0 m (x11_+1) ({Fields:=zE104_146.Fields,Headers:=zE104_146.Headers,Registers:=y149}:av)
      else
      lz x0 x1 K0 m (x11_+1) zE104_146) λk146=>
     if(decide (((ix ((ix x0.Actions x1).Body) x11_).Kind)=2))then
      LET (iv zE104_139.Headers ((ix ((ix x0.Actions x1).Body) x11_).Header)) λy155=>
      k146 ({Fields:=zE104_139.Fields,Headers:=y155,Registers:=zE104_139.Registers}:av)
     else
     k146 zE104_139) λk139=>
    if(((decide (((ix ((ix x0.Actions x1).Body) x11_).Kind)=1))||(decide (((ix ((ix x0.Actions x1).Body) x11_).Kind)=4)))&&(!decide ((((ix ((ix x0.Actions x1).Body) x11_).Dst).Header)=(-1))))then
     LET (iv zE104_128.Headers (((ix ((ix x0.Actions x1).Body) x11_).Dst).Header)) λy162=>
     k139 ({Fields:=zE104_128.Fields,Headers:=y162,Registers:=zE104_128.Registers}:av)
    else
    k139 zE104_128) λk128=>
   if((decide (((ix ((ix x0.Actions x1).Body) x11_).Kind)=1))||(decide (((ix ((ix x0.Actions x1).Body) x11_).Kind)=5)))then
    LET (ph zE104_121 ((ix ((ix x0.Actions x1).Body) x11_).Value)) λy168=>
    k128 y168
   else
   k128 zE104_121) λk121=>
  if((decide (((ix ((ix x0.Actions x1).Body) x11_).Kind)=4))||(decide (((ix ((ix x0.Actions x1).Body) x11_).Kind)=5)))then
   LET (ph zE104 ((ix ((ix x0.Actions x1).Body) x11_).Index)) λy173=>
   k121 y173
  else
  k121 zE104
def qd(x0:af)(x1:Int):(List aa)×(List Int)×(List Int):=
 LET (ny x0 x1) λy101=>
 if(!decide (y101.2=0))then
  (([]:List aa),([]:List Int),([]:List Int))
 else
 lz x0 x1 (λ(zE104_176:av)=>
  (zE104_176.Fields,zE104_176.Headers,zE104_176.Registers)) (Int.toNat ((((ix x0.Actions x1).Body).length:Int)-0)) 0 ({Fields:=([]:List aa),Headers:=([]:List Int),Registers:=([]:List Int)}:av)
def oh(x0:af)(x1:ay)(K0:(List Int)->(List Int)):Nat->(List Int)->Int->(List Int)
 |0,x5_,x7_=>K0 x5_
 |m+1,x5_,x7_=>
  LET (gb x0 ((ix ((ix x0.Tables x1.Table).Keys) x7_).Field)) λy125=>
  LET (nb x5_ y125) λy126=>
  oh x0 x1 K0 m y126 (x7_+1)
def ly(x0:af)(x1:ay)(K2:(List Int)->(List Int)):Nat->(List Int)->Int->(List Int)
 |0,x5_,x8_=>K2 x5_
 |m+1,x5_,x8_=>
  LET (qd x0 (ix ((ix x0.Tables x1.Table).Actions) x8_)) λy134=>
  LET (pb x0 x5_ y134.1 y134.2.1 y134.2.2) λy138=>
  ly x0 x1 K2 m y138 (x8_+1)
def rq(x0:af)(x1:ay):(List Int):=
 if(decide (x1.Table=(-1)))then
  LET (oz x1.Cond) λy103=>
  LET (nd x1.Cond) λy106=>
  LET (pb x0 ([]:List Int) y103 y106 ([]:List Int)) λy108=>
  y108
 else
 if((decide (x1.Table < 0))||(decide ((x0.Tables.length:Int)<=x1.Table)))then
  ([]:List Int)
 else
 oh x0 x1 (λ(x5_128:List Int)=>
  ly x0 x1 (λ(x5_140:List Int)=>
   x5_140) (Int.toNat ((((ix x0.Tables x1.Table).Actions).length:Int)-0)) x5_128 0) (Int.toNat ((((ix x0.Tables x1.Table).Keys).length:Int)-0)) ([]:List Int) 0
def jp(y107:(List ay))(y109:(List (List Int)))(x5_:Int)(K2:Unit->Bool):Nat->Int->Bool
 |0,x6_=>K2 ()
 |m+1,x6_=>
  if(((decide (((ix ((ix y107 x5_).Guards) x6_).Unit) < 0))||(decide (x5_<=((ix ((ix y107 x5_).Guards) x6_).Unit))))||(!decide ((ix (ix y109 ((ix ((ix y107 x5_).Guards) x6_).Unit)) x5_)=2)))then
   false
  else
  jp y107 y109 x5_ K2 m (x6_+1)
def jq(y109:(List (List Int)))(x5_:Int)(x8_:Int)(y140:(List Int))(y143:(List Int))(x11_:Int)(K8:Unit->Bool):Nat->Int->Bool
 |0,x12_=>K8 ()
 |m+1,x12_=>
  if((decide ((ix y140 x11_)=(ix y143 x12_)))&&(!decide ((ix (ix y109 x8_) x5_)=2)))then
   false
  else
  jq y109 x5_ x8_ y140 y143 x11_ K8 m (x12_+1)
def jn(y109:(List (List Int)))(x5_:Int)(x8_:Int)(y140:(List Int))(y143:(List Int))(K6:Unit->Bool):Nat->Int->Bool
 |0,x11_=>K6 ()
 |m+1,x11_=>
  jq y109 x5_ x8_ y140 y143 x11_ (λ(_:Unit)=>
   jn y109 x5_ x8_ y140 y143 K6 m (x11_+1)) (Int.toNat ((y143.length:Int)-0)) 0
def iq(x0:af)(y107:(List ay))(y109:(List (List Int)))(x5_:Int)(K4:Unit->Bool):Nat->Int->Bool
 |0,x8_=>K4 ()
 |m+1,x8_=>
  LET (ji y107 x8_ x5_) λy135=>
  if y135 then
   if(!decide ((ix (ix y109 x8_) x5_)=0))then
    false
   else
   iq x0 y107 y109 x5_ K4 m (x8_+1)
  else
  LET (qt x0 (ix y107 x8_)) λy140=>
  LET (rq x0 (ix y107 x5_)) λy143=>
  jn y109 x5_ x8_ y140 y143 (λ(_:Unit)=>
   iq x0 y107 y109 x5_ K4 m (x8_+1)) (Int.toNat ((y140.length:Int)-0)) 0
def jm(x0:af)(y107:(List ay))(y109:(List (List Int)))(K0:Unit->Bool):Nat->Int->Bool
 |0,x5_=>K0 ()
 |m+1,x5_=>
  if(!decide (((ix y109 x5_).length:Int)=(y107.length:Int)))then
   false
  else
  jp y107 y109 x5_ (λ(_:Unit)=>
   iq x0 y107 y109 x5_ (λ(_:Unit)=>
    jm x0 y107 y109 K0 m (x5_+1)) (Int.toNat (x5_-0)) 0) (Int.toNat ((((ix y107 x5_).Guards).length:Int)-0)) 0
def qf(x0:af):Bool:=
 LET (pf x0) λy101=>
 if((!y101)||(!(lu x0.Control 40)))then
  LET (sx) λy106=>
  y106
 else
 LET (lr x0) λy107=>
 LET (pm x0 y107) λy109=>
 if((decide (24 < (y107.length:Int)))||(!decide ((y109.length:Int)=(y107.length:Int))))then
  ((decide (24 < (y107.length:Int)))&&(sx))
 else
 jm x0 y107 y109 (λ(_:Unit)=>
  LET (sx) λy156=>
  y156) (Int.toNat ((y107.length:Int)-0)) 0
end Go.Proofs.YtmonnlkagniolaaGreat
